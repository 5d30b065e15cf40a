/-
  What the statements of chapter 11 about blame ask: the true one can be to blame, and what comes from it is called back. No program in sight.
-/
import Derived.Test.YtofenmailjdehaaDoorRcL
set_option linter.unusedVariables false
set_option linter.unusedSimpArgs false
namespace Go.Proofs.YtofenmailjdehaaDoor
open Go.AF
theorem bitsN_all {a n : Nat} (h : a < 2 ^ n) (hn : n ≤ 32) : bitsN a 32 = bitsN a n := bitsN_skip hn fun i h1 h2 => by
  cases h3 : a.testBit i with
  | false => rfl
  | true => have := bit_of_lt h h3; omega
def lowN (a g : Nat) : Nat := setOf (fun k => a.testBit k) g
theorem lowN_lt (a g : Nat) : lowN a g < 2 ^ g := setOf_lt _ _
theorem lowN_succ (a g : Nat) : lowN a (g + 1) = if a.testBit g then lowN a g ||| 2 ^ g else lowN a g := by
  have hlt := lowN_lt a g
  unfold lowN at hlt ⊢
  rw [setOf]
  split
  · apply bit_ext
    intro i
    rw [add_bit hlt, Nat.testBit_or, Nat.testBit_two_pow, setOf_bit]
    by_cases h1 : i < g
    · simp [h1, show ¬ g = i by omega]
    · simp [h1, eq_comm]
  · rfl
theorem lowN_all {a n : Nat} (h : a < 2 ^ n) : lowN a n = a := bit_ext fun i => by
  unfold lowN
  rw [setOf_bit, Bool.and_eq_true, decide_eq_true_eq]
  exact ⟨fun h => h.2, fun h1 => ⟨bit_of_lt h h1, h1⟩⟩
theorem blE_of {l : List Bat} (hC : crdOk l) {bad good : Nat} (hb : bad < 2 ^ l.length) (hg : good < 2 ^ l.length) : blE l (bad : Int) (good : Int) = if bad = 0 then 4 else if blameN l bad good = 0 then 6 else 0 := by
  have h : chkE l [(bad : Int), (good : Int)] = 0 := chk_of hC fun s hs => by
    unfold pw
    simp only [List.mem_cons, List.not_mem_nil, or_false] at hs
    rcases hs with rfl | rfl <;> omega
  unfold blE
  rw [if_neg (not_not_intro h)]
  by_cases h1 : bad = 0
  · rw [if_pos h1, if_pos (by omega)]
  · rw [if_neg h1, if_neg (by omega)]
    rfl
/-- The true one can be to blame. -/
theorem true_x {l : List Bat} {x a : Nat} (hx : x < l.length) : (blameN l (a &&& aheadN l x) (a ^^^ (a &&& aheadN l x))).testBit x = true := by
  rw [blame_iff]
  refine ⟨hx, fun k hk hb => ?_, fun k hk hg => ?_⟩
  · rw [Nat.testBit_and, Bool.and_eq_true, ahead_bit, Bool.and_eq_true] at hb
    exact hb.2.2
  · rw [xand_bit, ahead_bit, decide_eq_true hk, Bool.true_and] at hg
    exact hg.2
theorem bit_ne {a i : Nat} (h : a.testBit i = true) : a ≠ 0 := by rintro rfl; rw [Nat.zero_testBit] at h; cases h
/-- What comes from one that can be to blame, and was sold, is called back; and the number of its pencils is in the span. -/
theorem call_of {l : List Bat} (h24 : l.length ≤ 24) {can x : Nat} (hc : can < 2 ^ l.length) (hx : can.testBit x = true) : ownN l x ^^^ (ownN l x &&& callN l can) = 0 ∧ (spanN l can).1 ≤ cntN l x ∧ cntN l x ≤ (spanN l can).2 := by
  have hm : cntN l x ∈ (bitsN can 32).map (cntN l) := List.mem_map.2 ⟨x, bits_mem.2 ⟨by have := bit_of_lt hc hx; omega, hx⟩, rfl⟩
  refine ⟨xand_zero fun i hi => (call_bit h24 hc i).2 ⟨x, hx, hi⟩, ?_⟩
  exact (spF_mem _ (List.ne_nil_of_mem hm)).1 _ hm
theorem cnt_all {l : List Bat} (h24 : l.length ≤ 24) (x : Nat) : sumK l (bitsN (ownN l x) l.length) = cntN l x := by
  unfold cntN
  rw [bitsN_all (own_lt l x) (by omega)]
theorem own_cond {l : List Bat} {x i : Nat} (hi : i < l.length) : ((aheadN l x).testBit i && decide ((bt l i).s > 0)) = (ownN l x).testBit i := by
  have := own_bit l x i
  rw [ahead_bit, decide_eq_true hi, Bool.true_and]
  cases h : (ownN l x).testBit i with
  | true => obtain ⟨_, h1, h2⟩ := this.1 h; rw [h1, decide_eq_true h2]; rfl
  | false =>
    rw [h] at this
    cases h1 : (backN l i).testBit x with
    | false => rfl
    | true =>
      by_cases h2 : (bt l i).s > 0
      · exact absurd (this.2 ⟨hi, h1, h2⟩) (by decide)
      · rw [decide_eq_false h2]; rfl
theorem sumK_bits_B {l : List Bat} (h : crdOk l) (x : Nat) {g : Nat} (hg : g ≤ l.length) : 0 ≤ sumK l (bitsN (ownN l x) g) ∧ sumK l (bitsN (ownN l x) g) ≤ 33554432 := by
  have h24 := crd24 h
  have h1 := sumK_B h (bitsN (ownN l x) g) fun k hk => by have := (bits_mem.1 hk).1; omega
  have h2 : (bitsN (ownN l x) g).length ≤ 32 := bitsN_take (by omega)
  omega
/-- Both ends are those of one that can be to blame. -/
theorem span_ends {l : List Bat} {can : Nat} (h : can ≠ 0) (h32 : can < 2 ^ 32) : ((spanN l can).1 ∈ (bitsN can 32).map (cntN l)) ∧ (spanN l can).2 ∈ (bitsN can 32).map (cntN l) := by
  have hne : (bitsN can 32).map (cntN l) ≠ [] := by
    intro h1
    rw [List.map_eq_nil_iff] at h1
    refine h (zero_iff.2 fun i => ?_)
    cases h2 : can.testBit i with
    | false => rfl
    | true =>
      have h3 : i ∈ bitsN can 32 := bits_mem.2 ⟨bit_of_lt h32 h2, h2⟩
      rw [h1] at h3; cases h3
  exact (spF_mem _ hne).2
end Go.Proofs.YtofenmailjdehaaDoor
