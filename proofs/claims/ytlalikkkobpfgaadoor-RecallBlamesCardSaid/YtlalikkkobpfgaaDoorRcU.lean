/-
  What the statement about no other batch of chapter 11 asks. No program in sight.
-/
import Derived.Test.YtlalikkkobpfgaaDoorRcT
set_option linter.unusedVariables false
set_option linter.unusedSimpArgs false
namespace Go.Proofs.YtlalikkkobpfgaaDoor
open Go.AF
theorem blE_06 {l : List Bat} {bad good : Int} (h : blE l bad good = 0 ∨ blE l bad good = 6) : crdOk l ∧ (0 ≤ bad ∧ bad ≤ pw l.length - 1) ∧ (0 ≤ good ∧ good ≤ pw l.length - 1) ∧ bad ≠ 0 ∧ blR l bad good = blameN l bad.toNat good.toNat ∧ decide (blE l bad good = 6) = decide (((blameN l bad.toNat good.toNat : Nat) : Int) = 0) := by
  have h0 : chkE l [bad, good] = 0 := by
    unfold blE at h
    split at h
    · rename_i h1
      exfalso
      rcases h with h | h
      · exact h1 h
      · unfold chkE at h
        split at h
        · split at h <;> omega
        · omega
    · rename_i h1; omega
  obtain ⟨hC, hS⟩ := chk_ok h0
  have hz : bad ≠ 0 := by
    intro hb
    unfold blE at h
    rw [if_neg (not_not_intro h0), if_pos hb] at h
    omega
  have e : blE l bad good = if blameN l bad.toNat good.toNat = 0 then 6 else 0 := by
    unfold blE
    rw [if_neg (not_not_intro h0), if_neg hz]
  refine ⟨hC, hS bad (by simp), hS good (by simp), hz, ?_, ?_⟩
  · unfold blR
    rw [e]
    by_cases h1 : blameN l bad.toNat good.toNat = 0
    · rw [if_pos h1, if_neg (by decide), h1]
    · rw [if_neg h1, if_pos rfl]
  · rw [e]
    by_cases h1 : blameN l bad.toNat good.toNat = 0
    · rw [if_pos h1, h1]; rfl
    · rw [if_neg h1, decide_eq_false (by decide), decide_eq_false (by omega)]
theorem blE_no {l : List Bat} {bad good : Int} (h0 : blE l bad good ≠ 0) (h6 : blE l bad good ≠ 6) : decide (blE l bad good = 1) = !decide (crdOk l) := by
  by_cases hC : crdOk l
  · rw [decide_eq_true hC]
    apply decide_eq_false
    intro h1
    unfold blE chkE at h1
    rw [if_pos hC] at h1
    split at h1
    · split at h1 <;> omega
    · split at h1
      · omega
      · split at h1 <;> omega
  · rw [decide_eq_false hC]
    apply decide_eq_true
    unfold blE chkE
    rw [if_neg hC, if_pos (by decide)]
theorem rec_06 {l : List Bat} {bad good : Int} (h : blE l bad good = 0 ∨ blE l bad good = 6) : recN l bad good = callN l (blR l bad good) ∧ recS l bad good = spanN l (blR l bad good) := by
  unfold recN recS
  rcases h with h | h
  · rw [if_pos h, if_pos h]; exact ⟨rfl, rfl⟩
  · have e : blR l bad good = 0 := by unfold blR; rw [h]; rfl
    rw [h, e]
    have hb : bitsN 0 32 = [] := by decide
    unfold callN spanN
    rw [hb]
    exact ⟨rfl, rfl⟩
theorem xand_zero_iff {a b : Nat} : a ^^^ (a &&& b) = 0 ↔ ∀ i, a.testBit i = true → b.testBit i = true := by
  refine ⟨fun h i hi => ?_, xand_zero⟩
  cases hb : b.testBit i with
  | true => rfl
  | false =>
    have := (xand_bit a b i).2 ⟨hi, hb⟩
    rw [h, Nat.zero_testBit] at this
    cases this
theorem and_zero_iff {a b : Nat} : a &&& b = 0 ↔ ∀ i, a.testBit i = true → b.testBit i = false := by
  rw [zero_iff]
  constructor
  · intro h i hi
    have := h i
    rw [Nat.testBit_and, hi, Bool.true_and] at this
    exact this
  · intro h i
    rw [Nat.testBit_and]
    cases ha : a.testBit i with
    | false => rfl
    | true => rw [h i ha]; rfl
/-- It explains all complaints just if it can be to blame. -/
theorem expl_eq {l : List Bat} {bad good i : Nat} (hb : bad < 2 ^ l.length) (hg : good < 2 ^ l.length) (hi : i < l.length) : (decide (((bad ^^^ (bad &&& aheadN l i) : Nat) : Int) = 0) && decide (((good &&& aheadN l i : Nat) : Int) = 0)) = (blameN l bad good).testBit i := by
  have e1 : decide (((bad ^^^ (bad &&& aheadN l i) : Nat) : Int) = 0) = decide (∀ k, k < l.length → bad.testBit k = true → (backN l k).testBit i = true) := decide_eq_decide.2 (by
    rw [show (((bad ^^^ (bad &&& aheadN l i) : Nat) : Int) = 0 ↔ bad ^^^ (bad &&& aheadN l i) = 0) by omega, xand_zero_iff]
    constructor
    · intro h k hk hbk
      have := h k hbk
      rw [ahead_bit, Bool.and_eq_true] at this
      exact this.2
    · intro h k hbk
      have hk := bit_of_lt hb hbk
      rw [ahead_bit, decide_eq_true hk, h k hk hbk]; rfl)
  have e2 : decide (((good &&& aheadN l i : Nat) : Int) = 0) = decide (∀ k, k < l.length → good.testBit k = true → (backN l k).testBit i = false) := decide_eq_decide.2 (by
    rw [show (((good &&& aheadN l i : Nat) : Int) = 0 ↔ good &&& aheadN l i = 0) by omega, and_zero_iff]
    constructor
    · intro h k hk hgk
      have := h k hgk
      rw [ahead_bit, decide_eq_true hk, Bool.true_and] at this
      exact this
    · intro h k hgk
      have hk := bit_of_lt hg hgk
      rw [ahead_bit, decide_eq_true hk, h k hk hgk]; rfl)
  rw [e1, e2, Bool.eq_iff_iff, blame_iff, Bool.and_eq_true, decide_eq_true_eq, decide_eq_true_eq]
  exact ⟨fun h => ⟨hi, h⟩, fun h => h.2⟩
end Go.Proofs.YtlalikkkobpfgaaDoor
