/-
  What the statement about more complaints of chapter 11 asks. No program in sight.
-/
import Derived.Test.YtlalikkkobpfgaaDoorRcU
set_option linter.unusedVariables false
set_option linter.unusedSimpArgs false
namespace Go.Proofs.YtlalikkkobpfgaaDoor
open Go.AF
theorem blame_bad (l : List Bat) (bad good s : Nat) : blameN l (bad ||| s) good ^^^ (blameN l (bad ||| s) good &&& blameN l bad good) = 0 := xand_zero fun i hi => by
  rw [blame_iff] at hi ⊢
  exact ⟨hi.1, fun k hk hb => hi.2.1 k hk (by rw [Nat.testBit_or, hb]; rfl), hi.2.2⟩
theorem blame_good (l : List Bat) (bad good s : Nat) : blameN l bad (good ||| s) ^^^ (blameN l bad (good ||| s) &&& blameN l bad good) = 0 := xand_zero fun i hi => by
  rw [blame_iff] at hi ⊢
  exact ⟨hi.1, hi.2.1, fun k hk hb => hi.2.2 k hk (by rw [Nat.testBit_or, hb]; rfl)⟩
theorem blame_all (l : List Bat) (bad good : Nat) : blameN l bad good ^^^ (blameN l bad good &&& blameN l bad 0) = 0 := xand_zero fun i hi => by
  rw [blame_iff] at hi ⊢
  exact ⟨hi.1, hi.2.1, fun k hk hb => by rw [Nat.zero_testBit] at hb; cases hb⟩
theorem call_mono {l : List Bat} (h24 : l.length ≤ 24) {a b : Nat} (ha : a < 2 ^ l.length) (hb : b < 2 ^ l.length) (h : a ^^^ (a &&& b) = 0) : callN l a ^^^ (callN l a &&& callN l b) = 0 := xand_zero fun i hi => by
  rw [call_bit h24 ha] at hi
  rw [call_bit h24 hb]
  obtain ⟨k, h1, h2⟩ := hi
  exact ⟨k, xand_zero_iff.1 h k h1, h2⟩
theorem sub_zero {a b : Nat} (h : a ^^^ (a &&& b) = 0) (hb : b = 0) : a = 0 := by
  subst hb
  rw [Nat.and_zero, Nat.xor_zero] at h
  exact h
/-- Each one leads ahead to a last one. -/
theorem last_of {l : List Bat} (h24 : l.length ≤ 24) {own : Nat} (ho : own < 2 ^ l.length) : ∀ (m k : Nat), own.testBit k = true → l.length - k ≤ m → ∃ x, (aheadN l k).testBit x = true ∧ (lastN l own).testBit x = true
  | m, k, hk, hm => by
    have hkl := bit_of_lt ho hk
    have hself : (aheadN l k).testBit k = true := by rw [ahead_bit, decide_eq_true hkl, back_self]; rfl
    by_cases h : ∀ q, (aheadN l k).testBit q = true → q ≠ k → own.testBit q = false
    · exact ⟨k, hself, (last_bit h24 ho k).2 ⟨hk, h⟩⟩
    · have : ∃ q, (aheadN l k).testBit q = true ∧ q ≠ k ∧ own.testBit q = true := by
        apply Classical.byContradiction
        intro h2
        refine h fun q h3 h4 => ?_
        cases h5 : own.testBit q with
        | false => rfl
        | true => exact absurd ⟨q, h3, h4, h5⟩ h2
      obtain ⟨q, h1, h2, h3⟩ := this
      have h4 := h1
      rw [ahead_bit, Bool.and_eq_true, decide_eq_true_eq] at h4
      have h5 := back_le l h4.2
      match m, hm with
      | 0, hm => omega
      | m + 1, hm =>
        obtain ⟨x, h6, h7⟩ := last_of h24 ho m q h3 (by omega)
        refine ⟨x, ?_, h7⟩
        rw [ahead_bit, Bool.and_eq_true, decide_eq_true_eq] at h6 ⊢
        exact ⟨h6.1, back_trans l h6.2 h4.2⟩
theorem last_ne {l : List Bat} (h24 : l.length ≤ 24) {own : Nat} (ho : own < 2 ^ l.length) (hz : own ≠ 0) : lastN l own ≠ 0 := by
  intro h
  refine hz (zero_iff.2 fun k => ?_)
  cases hk : own.testBit k with
  | false => rfl
  | true =>
    obtain ⟨x, _, h1⟩ := last_of h24 ho _ k hk (Nat.le_refl _)
    rw [h, Nat.zero_testBit] at h1; cases h1
theorem last_sub {l : List Bat} (h24 : l.length ≤ 24) {own : Nat} (ho : own < 2 ^ l.length) : lastN l own ^^^ (lastN l own &&& own) = 0 := xand_zero fun i hi => ((last_bit h24 ho i).1 hi).1
theorem last_lt {l : List Bat} (h24 : l.length ≤ 24) {own : Nat} (ho : own < 2 ^ l.length) : lastN l own < 2 ^ l.length := bit_lt fun i hi => bit_of_lt ho ((last_bit h24 ho i).1 hi).1
theorem ahead_last {l : List Bat} (h24 : l.length ≤ 24) {own k : Nat} (ho : own < 2 ^ l.length) (hk : own.testBit k = true) : aheadN l k &&& lastN l own ≠ 0 := by
  obtain ⟨x, h1, h2⟩ := last_of h24 ho _ k hk (Nat.le_refl _)
  exact bit_ne (i := x) (by rw [Nat.testBit_and, h1, h2]; rfl)
theorem bad_ahead {l : List Bat} {bad k : Nat} (hb : bad < 2 ^ l.length) (hk : (blameN l bad 0).testBit k = true) : bad ^^^ (bad &&& aheadN l k) = 0 := xand_zero fun i hi => by
  have := (blame_iff l bad 0 k).1 hk
  have hil := bit_of_lt hb hi
  rw [ahead_bit, decide_eq_true hil, this.2.1 i hil hi]; rfl
theorem last_only {l : List Bat} (h24 : l.length ≤ 24) {own k : Nat} (ho : own < 2 ^ l.length) (hk : (lastN l own).testBit k = true) : aheadN l k &&& own = 2 ^ k := by
  obtain ⟨h1, h2⟩ := (last_bit h24 ho k).1 hk
  have hkl := bit_of_lt ho h1
  apply bit_ext
  intro q
  rw [Nat.testBit_and, Bool.and_eq_true, Nat.testBit_two_pow, decide_eq_true_eq]
  constructor
  · rintro ⟨h3, h4⟩
    by_cases h5 : q = k
    · exact h5.symm
    · rw [h2 q h3 h5] at h4; cases h4
  · rintro rfl
    exact ⟨by rw [ahead_bit, decide_eq_true hkl, back_self]; rfl, h1⟩
theorem cmE_of {l : List Bat} (hC : crdOk l) {bad : Nat} (hb : bad < 2 ^ l.length) (hz : bad ≠ 0) : cmE l (bad : Int) = if blameN l bad 0 = 0 then 4 else 0 := by
  have h : chkE l [(bad : Int)] = 0 := chk_of hC fun s hs => by
    unfold pw
    simp only [List.mem_cons, List.not_mem_nil, or_false] at hs
    subst hs; omega
  unfold cmE
  rw [if_neg (not_not_intro h)]
  by_cases h1 : blameN l bad 0 = 0
  · rw [if_pos (.inr h1), if_pos h1]
  · rw [if_neg (by rintro (h2 | h2); { omega }; { exact h1 h2 }), if_neg h1]
theorem cm_of {l : List Bat} (hC : crdOk l) {bad : Nat} (hb : bad < 2 ^ l.length) (hz : bad ≠ 0) : cmA l (bad : Int) = blameN l bad 0 ∧ cmL l (bad : Int) = lastN l (blameN l bad 0) := by
  have h := cmE_of hC hb hz
  unfold cmA cmL
  rw [h]
  by_cases h1 : blameN l bad 0 = 0
  · rw [if_pos h1, if_neg (by decide), if_neg (by decide), h1]
    refine ⟨rfl, ?_⟩
    have hb0 : bitsN 0 32 = [] := by decide
    unfold lastN
    rw [hb0]; rfl
  · rw [if_neg h1, if_pos rfl, if_pos rfl]; exact ⟨rfl, rfl⟩
theorem bl_of {l : List Bat} (hC : crdOk l) {bad good : Nat} (hb : bad < 2 ^ l.length) (hg : good < 2 ^ l.length) (hz : bad ≠ 0) : blE l (bad : Int) (good : Int) = (if blameN l bad good = 0 then 6 else 0) ∧ blR l (bad : Int) (good : Int) = blameN l bad good ∧ recN l (bad : Int) (good : Int) = callN l (blameN l bad good) := by
  have e : blE l (bad : Int) (good : Int) = if blameN l bad good = 0 then 6 else 0 := by rw [blE_of hC hb hg, if_neg hz]
  have h06 : blE l (bad : Int) (good : Int) = 0 ∨ blE l (bad : Int) (good : Int) = 6 := by rw [e]; split <;> simp
  have hR := (blE_06 h06).2.2.2.2.1
  refine ⟨e, hR, ?_⟩
  rw [(rec_06 h06).1, hR]; rfl
end Go.Proofs.YtlalikkkobpfgaaDoor
