/-
  Loops of a known number of rounds; more short forms. No condition; generic over any program.
-/
import Derived.Test.YtmcejcidbekpkaaAf16
set_option linter.unusedVariables false
set_option linter.unusedSimpArgs false
set_option linter.unusedSectionVars false
namespace Go.AF
section
variable {P : Program} {R : Option Nat} {N κ : Nat} {Q Q' : Post} {T T' T2 T3 : Tm} {H H' H2 H3 : List Blk} {o : Oper} {ops : Array Oper} {rest : List Oper}

/-- So many rounds at most, one by one. -/
def ARounds (P : Program) (R : Option Nat) (N κ : Nat) (c : Code) (Q : Post) : Nat → Tm → List Blk → Prop
  | 0, _, _ => False
  | m + 1, T, H => AWp P R N κ c (AX.then (ARounds P R N κ c Q m) Q) T H
theorem ARounds.next {c : Code} {m : Nat} (h : AWp P R N κ c (AX.then (ARounds P R N κ c Q m) Q) T H) : ARounds P R N κ c Q (m + 1) T H := h
theorem AWp.unroll (m : Nat) {c : Code} (h : ARounds P R N κ c Q m T H) : AWp P R N κ (.loop c) Q T H := by
  refine AWp.loop (γ := Nat × Tm × List Blk) (fun g => g.2.1) (fun g => g.2.2) (fun g => ARounds P R N κ c Q g.1 g.2.1 g.2.2) (fun g => g.1) (m, T, H) h (Sub.refl _) rfl ?_
  rintro ⟨k, T1, H1⟩ hk
  cases k with
  | zero => exact hk.elim
  | succ k =>
    refine AWp.mono hk ?_
    intro x T2 H2 q
    cases x with
    | normal => exact ⟨(k, T2, H2), q, Nat.lt_succ_self k, Sub.refl _, rfl⟩
    | _ => exact q
theorem AWp.condT {c : Operand} {x y : Code} (hc : ev T c = some (.p (.bool true))) (ht : AWp P R N κ x Q T H) : AWp P R N κ (.cond c x y) Q T H :=
  AWp.cond true hc (fun _ => ht) (fun h => by cases h)
theorem AWp.condF {c : Operand} {x y : Code} (hc : ev T c = some (.p (.bool false))) (hf : AWp P R N κ y Q T H) : AWp P R N κ (.cond c x y) Q T H :=
  AWp.cond false hc (fun h => by cases h) (fun _ => hf)
/-- The state, written anew: some places are kept. -/
theorem AWp.norm (ks : List Nat) (T2 : Tm) (H2 : List Blk) {c : Code} (hk : keepOk κ H.length ks = true) (hS : Sub T2 (renT (pl ks) T)) (hH : (ks.map fun i => renB (pl ks) (H.getD i .dead)) = H2) (h : AWp P R N κ c Q T2 H2) : AWp P R N κ c Q T H :=
  AWp.to (To.done ks hk hS hH) h
theorem u64ok {n : Int} (h : 0 ≤ n ∧ n ≤ 18446744073709551615) : IntKind.u64.wrap n = n := by
  have e : IntKind.u64.wrap n = n % 18446744073709551616 := by simp [IntKind.wrap, IntKind.bits, IntKind.signed]
  rw [e]; omega
theorem shr1 {n : Int} : n.fdiv 2 = n / 2 := Int.fdiv_eq_ediv_of_nonneg _ (by decide)
end
end Go.AF
