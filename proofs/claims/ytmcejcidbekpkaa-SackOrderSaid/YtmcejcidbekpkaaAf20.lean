/-
  More short forms: shadowed slots; what any length of cells is. No condition; generic over any program.
-/
import Derived.Test.YtmcejcidbekpkaaAf19
set_option linter.unusedVariables false
set_option linter.unusedSimpArgs false
set_option linter.unusedSectionVars false
namespace Go.AF
section
variable {P : Program} {R : Option Nat} {N κ : Nat} {Q Q' : Post} {T T' T2 T3 : Tm} {H H' H2 H3 : List Blk}
theorem lk_skip {s a : Nat} {v : V} (h : Nat.beq a s = false) : lk ((a, v) :: T) s = lk T s := by simp [lk, h]
/-- An elder value of a slot is dropped. -/
theorem AWp.ded {c : Code} {s : Nat} {v : V} (h : AWp P R N κ c Q ((s, v) :: dropT [s] T) H) : AWp P R N κ c Q ((s, v) :: T) H :=
  AWp.sub' (fun a x hx => by
    simp only [lk] at hx ⊢
    cases hb : Nat.beq s a with
    | true => rw [hb] at hx; exact hx
    | false => rw [hb] at hx; exact lk_dropT [s] T a x hx) h
end
theorem flat_len {α : Type} {f : α → List PV} {c : Nat} (h : ∀ x, (f x).length = c) : ∀ xs : List α, (xs.flatMap f).length = xs.length * c
  | [] => by simp
  | x :: xs => by rw [List.flatMap_cons, List.length_append, flat_len h xs, h, List.length_cons, Nat.add_mul]; omega
end Go.AF
