/-
  Rows put together. No condition; generic over any program.
-/
import Derived.Test.YtofenmailjdehaaDoorAfF
set_option linter.unusedVariables false
namespace Go.AF
theorem allP_cat (A B : List PV) : allP (A.map .p ++ B.map .p) = some (A ++ B) := by
  rw [← List.map_append]; exact allP_map _
theorem renL_cat (σ : Nat → Option Nat) (A B : List PV) : renL σ (A.map .p ++ B.map .p) = A.map .p ++ B.map .p := by
  rw [renL_app, renL_pure, renL_pure]
section
variable {P : Program} {R : Option Nat} {N κ : Nat} {Q : Post} {T : Tm} {H H' : List Blk} {o : Oper} {ops : Array Oper} {K : Tm → List Blk → Prop} {rest : List Oper} {S L us : List Nat} {n0 : Nat} {D : List (List Nat × Bool)}
/-- An operation that looks at an own block that nobody will write any more. -/
theorem OpJ.frz (k : Nat) {xs : List PV} {vs : List V} {v : V} (hc : blkCells H[k]? = some vs) (hp : allP vs = some xs) (h : OpJ P N o (frzT k xs T) (H.set k .dead) v H') : OpJ P N o T H v H' :=
  fun R w I ρ a hi ht KK QX hK => by
    rw [allP_some hp] at hc
    obtain ⟨I', h1, h2, h3⟩ := frz_step hi hc ht
    exact h R w I' ρ a h2 h3 KK QX fun u w' I'' ρ' he hi' hu => hK u w' I'' ρ' (h1.trans he) hi' hu
theorem AQG.puts (d k : Nat) {blk : Blk} {v : V} (hd : o.dst = some d) (hdN : dstOk N (some d) = true) (hg : o.guard = none) (hk : us.elem k = true) (hS : S.elem k = true) (hop : ∀ g, OpJ P N o (restr ops o T) (mask g (difL S us) 0 H) v (mask g (difL S us) 0 (H.set k blk))) (hv : renV (sg n0 (intL us L)) v = v) (hb : renB (sg n0 []) blk = blk)
    (next : AQG P N ops S n0 K L D rest ((d, v) :: T) (H.set k blk)) : AQG P N ops S n0 K L ((us, true) :: D) (o :: rest) T H :=
  ⟨v, [(k, blk)], L, by rw [hd]; exact hdN, .inr (.inl ⟨rfl, hg, rfl, hv, k, blk, rfl, by simpa using hk, by simpa using hS, hb, hop⟩), by rw [hd]; exact next⟩
end
end Go.AF
