/-
  The plain law of boxes: what lacks most, and how many boxes can be filled. No program in sight.
-/
import Derived.Test.YtpamkihpffoflaaBxP
set_option linter.unusedVariables false
set_option linter.unusedSimpArgs false
namespace Go.Proofs.Ytpamkihpffoflaa
/-- The set that lacks most, of the first ones, and how many. -/
def lkF (v : List Int) (l : List Pl) : Nat → Nat × Int
  | 0 => (0, 0)
  | k + 1 => if (lkF v l k).2 < sumS v (k + 1) - ofP l (k + 1) then (k + 1, sumS v (k + 1) - ofP l (k + 1)) else lkF v l k
theorem lkF_ge (v : List Int) (l : List Pl) : ∀ k s, 1 ≤ s → s ≤ k → sumS v s - ofP l s ≤ (lkF v l k).2
  | 0, s, h1, h2 => by omega
  | k + 1, s, h1, h2 => by
    simp only [lkF]
    rcases Nat.lt_succ_iff_lt_or_eq.1 (Nat.lt_succ_of_le h2) with h | rfl
    · have := lkF_ge v l k s h1 (by omega)
      split <;> (try dsimp only) <;> omega
    · split <;> (try dsimp only) <;> omega
theorem lkF_nonneg (v : List Int) (l : List Pl) : ∀ k, 0 ≤ (lkF v l k).2
  | 0 => Int.le_refl _
  | k + 1 => by
    have := lkF_nonneg v l k
    simp only [lkF]
    split <;> (try dsimp only) <;> omega
/-- It is the first one that lacks so many; none lacks anything if it is 0. -/
theorem lkF_at (v : List Int) (l : List Pl) : ∀ k, ((lkF v l k).1 = 0 ∧ (lkF v l k).2 = 0) ∨ ((1 ≤ (lkF v l k).1 ∧ (lkF v l k).1 ≤ k) ∧ 0 < (lkF v l k).2 ∧ (lkF v l k).2 = sumS v (lkF v l k).1 - ofP l (lkF v l k).1 ∧ ∀ s, 1 ≤ s → s < (lkF v l k).1 → sumS v s - ofP l s < (lkF v l k).2)
  | 0 => .inl ⟨rfl, rfl⟩
  | k + 1 => by
    have ih := lkF_at v l k
    have hn := lkF_nonneg v l k
    simp only [lkF]
    split
    · rename_i h
      right
      refine ⟨⟨by dsimp only; omega, by dsimp only; omega⟩, by dsimp only; omega, rfl, fun s h1 h2 => ?_⟩
      have := lkF_ge v l k s h1 (by dsimp only at h2; omega)
      dsimp only
      omega
    · rcases ih with h | ⟨h1, h2⟩
      · exact .inl h
      · exact .inr ⟨⟨h1.1, by omega⟩, h2⟩
theorem lkF_zero {v : List Int} {l : List Pl} {k : Nat} : (lkF v l k).2 = 0 ↔ ∀ s, 1 ≤ s → s ≤ k → sumS v s ≤ ofP l s := by
  constructor
  · intro h s h1 h2
    have := lkF_ge v l k s h1 h2
    omega
  · intro h
    rcases lkF_at v l k with h1 | ⟨h1, h2, h3, _⟩
    · exact h1.2
    · have := h _ h1.1 h1.2
      omega
def allS (n : Nat) : Nat := 2 ^ n - 1
/-- No set lacks anything, by all sets of the shades. -/
theorem hall_iff {v : List Int} {l : List Pl} (hl : posP l) (hs : ∀ p ∈ l, p.s < 2 ^ v.length) : (lkF v l (allS v.length)).2 = 0 ↔ Hall v l := by
  rw [lkF_zero]
  constructor
  · intro h s
    have e1 : sumS v s = sumS v (s % 2 ^ v.length) := isum_congr _ fun i hi => by
      simp only [Nat.testBit_mod_two_pow, hi, decide_true, Bool.true_and]
    have e2 : ofP l (s % 2 ^ v.length) = ofP l s := by
      unfold ofP
      congr 1
      refine List.map_congr_left fun p hp => ?_
      have e3 : p.s &&& (s % 2 ^ v.length) = 0 ↔ p.s &&& s = 0 := by
        rw [and_zero_iff, and_zero_iff]
        constructor
        · intro h i ⟨h1, h2⟩
          refine h i ⟨h1, ?_⟩
          have hlt : i < v.length := by
            rcases Nat.lt_or_ge i v.length with h3 | h3
            · exact h3
            · have := Nat.testBit_lt_two_pow (Nat.lt_of_lt_of_le (hs p hp) (Nat.pow_le_pow_right (by omega) h3))
              rw [h1] at this; cases this
          rw [Nat.testBit_mod_two_pow]; simp [hlt, h2]
        · intro h i ⟨h1, h2⟩
          rw [Nat.testBit_mod_two_pow] at h2
          simp at h2
          exact h i ⟨h1, h2.2⟩
      simp only [e3]
    rw [e1, ← e2]
    have hlt := Nat.mod_lt s (Nat.two_pow_pos v.length)
    rcases Nat.eq_zero_or_pos (s % 2 ^ v.length) with h0 | h0
    · rw [h0, sumS_zero]
      exact ofP_nonneg hl 0
    · exact h _ h0 (by unfold allS; omega)
  · intro h s _ _
    exact h s
/-! ### How many boxes -/
def timesV (need : List Int) (b : Int) : List Int := need.map fun x => x * b
theorem timesV_length (need : List Int) (b : Int) : (timesV need b).length = need.length := by simp [timesV]
theorem sumS_times (need : List Int) (b : Int) (s : Nat) : sumS (timesV need b) s = b * sumS need s := by
  unfold sumS
  rw [timesV_length, ← isum_mul]
  refine isum_congr _ fun i hi => ?_
  unfold timesV
  rw [List.getElem?_map, List.getElem?_eq_getElem hi]
  simp only [Option.map_some, Option.getD_some]
  split
  · exact Int.mul_comm _ _
  · simp
def okN (need : List Int) : Prop := ∀ x ∈ need, 0 ≤ x ∧ x ≤ 48
theorem getD_nonneg {v : List Int} (h : ∀ x ∈ v, 0 ≤ x) (i : Nat) : 0 ≤ v[i]?.getD 0 := by
  cases e : v[i]? with
  | none => simp
  | some x => simpa using h x (List.mem_of_getElem? e)
theorem sumS_nonneg {v : List Int} (h : ∀ x ∈ v, 0 ≤ x) (s : Nat) : 0 ≤ sumS v s := isum_nonneg _ fun i hi => by
  split
  · exact getD_nonneg h i
  · exact Int.le_refl _
/-- So many boxes can be filled. -/
def canB (need : List Int) (l : List Pl) (b : Int) : Bool := decide ((lkF (timesV need b) l (allS need.length)).2 = 0)
theorem canB_iff {need : List Int} {l : List Pl} {b : Int} : canB need l b = true ↔ ∀ s, 1 ≤ s → s ≤ allS need.length → b * sumS need s ≤ ofP l s := by
  unfold canB
  rw [decide_eq_true_eq, lkF_zero]
  simp only [sumS_times]
theorem canB_mono {need : List Int} {l : List Pl} (hn : okN need) {a b : Int} (h : a ≤ b) (hb : canB need l b = true) : canB need l a = true := by
  rw [canB_iff] at hb ⊢
  intro s h1 h2
  have h3 := hb s h1 h2
  have h4 := Int.mul_le_mul_of_nonneg_right h (sumS_nonneg (fun x hx => (hn x hx).1) s)
  omega
/-- The least of what sets have for so many boxes: -1 at first. -/
def quF (need : List Int) (l : List Pl) : Nat → Int
  | 0 => -1
  | k + 1 => if 0 < sumS need (k + 1) ∧ (quF need l k < 0 ∨ ofP l (k + 1) / sumS need (k + 1) < quF need l k) then ofP l (k + 1) / sumS need (k + 1) else quF need l k
theorem quF_spec {need : List Int} {l : List Pl} (hl : posP l) : ∀ k, (quF need l k = -1 ∧ ∀ s, 1 ≤ s → s ≤ k → ¬ 0 < sumS need s) ∨
    (0 ≤ quF need l k ∧ (∀ s, 1 ≤ s → s ≤ k → 0 < sumS need s → quF need l k ≤ ofP l s / sumS need s) ∧ ∃ s, (1 ≤ s ∧ s ≤ k) ∧ 0 < sumS need s ∧ quF need l k = ofP l s / sumS need s)
  | 0 => .inl ⟨rfl, fun s h1 h2 => by omega⟩
  | k + 1 => by
    have ih := quF_spec (need := need) hl k
    have hq : 0 < sumS need (k + 1) → 0 ≤ ofP l (k + 1) / sumS need (k + 1) := fun h => Int.ediv_nonneg (ofP_nonneg hl _) (by omega)
    simp only [quF]
    by_cases hp : 0 < sumS need (k + 1)
    · have hq' := hq hp
      by_cases hc : quF need l k < 0 ∨ ofP l (k + 1) / sumS need (k + 1) < quF need l k
      · rw [if_pos ⟨hp, hc⟩]
        right
        refine ⟨hq', fun s h1 h2 h3 => ?_, k + 1, ⟨by omega, by omega⟩, hp, rfl⟩
        rcases Nat.lt_succ_iff_lt_or_eq.1 (Nat.lt_succ_of_le h2) with h | rfl
        · rcases ih with ⟨i1, i2⟩ | ⟨i1, i2, _⟩
          · exact absurd h3 (i2 s h1 (by omega))
          · have := i2 s h1 (by omega) h3
            omega
        · exact Int.le_refl _
      · rw [if_neg (fun h => hc h.2)]
        rcases ih with ⟨i1, i2⟩ | ⟨i1, i2, s0, h0, h0', e0⟩
        · exact absurd (.inl (by omega)) hc
        · right
          refine ⟨i1, fun s h1 h2 h3 => ?_, s0, ⟨h0.1, by omega⟩, h0', e0⟩
          rcases Nat.lt_succ_iff_lt_or_eq.1 (Nat.lt_succ_of_le h2) with h | rfl
          · exact i2 s h1 (by omega) h3
          · omega
    · rw [if_neg (fun h => hp h.1)]
      rcases ih with ⟨i1, i2⟩ | ⟨i1, i2, s0, h0, h0', e0⟩
      · left
        refine ⟨i1, fun s h1 h2 => ?_⟩
        rcases Nat.lt_succ_iff_lt_or_eq.1 (Nat.lt_succ_of_le h2) with h | rfl
        · exact i2 s h1 (by omega)
        · exact hp
      · right
        refine ⟨i1, fun s h1 h2 h3 => ?_, s0, ⟨h0.1, by omega⟩, h0', e0⟩
        rcases Nat.lt_succ_iff_lt_or_eq.1 (Nat.lt_succ_of_le h2) with h | rfl
        · exact i2 s h1 (by omega) h3
        · exact absurd h3 hp
/-- The first set that has less than it needs; 0: none. -/
def pfF (need : List Int) (l : List Pl) (b : Int) : Nat → Nat
  | 0 => 0
  | k + 1 => if pfF need l b k = 0 then (if ofP l (k + 1) < b * sumS need (k + 1) then k + 1 else 0) else pfF need l b k
theorem pfF_spec (need : List Int) (l : List Pl) (b : Int) : ∀ k, (pfF need l b k = 0 ∧ ∀ s, 1 ≤ s → s ≤ k → b * sumS need s ≤ ofP l s) ∨ ((1 ≤ pfF need l b k ∧ pfF need l b k ≤ k) ∧ ofP l (pfF need l b k) < b * sumS need (pfF need l b k) ∧ ∀ s, 1 ≤ s → s < pfF need l b k → b * sumS need s ≤ ofP l s)
  | 0 => .inl ⟨rfl, fun s h1 h2 => by omega⟩
  | k + 1 => by
    simp only [pfF]
    rcases pfF_spec need l b k with ⟨h1, h2⟩ | ⟨h1, h2⟩
    · rw [if_pos h1]
      by_cases h : ofP l (k + 1) < b * sumS need (k + 1)
      · rw [if_pos h]
        exact .inr ⟨⟨by omega, by omega⟩, h, fun s h3 h4 => h2 s h3 (by omega)⟩
      · rw [if_neg h]
        refine .inl ⟨rfl, fun s h3 h4 => ?_⟩
        rcases Nat.lt_succ_iff_lt_or_eq.1 (Nat.lt_succ_of_le h4) with h5 | rfl
        · exact h2 s h3 (by omega)
        · omega
    · rw [if_neg (by omega)]
      exact .inr ⟨⟨h1.1, by omega⟩, h2⟩
/-- The greatest number of boxes is what the document says. -/
theorem most_spec {need : List Int} {l : List Pl} (hl : posP l) (hn : okN need) (h : ∃ s, 1 ≤ s ∧ s ≤ allS need.length ∧ 0 < sumS need s) :
    0 ≤ quF need l (allS need.length) ∧ canB need l (quF need l (allS need.length)) = true ∧ canB need l (quF need l (allS need.length) + 1) = false := by
  rcases quF_spec (need := need) hl (allS need.length) with ⟨h1, h2⟩ | ⟨h1, h2, s0, h3, h4, h5⟩
  · obtain ⟨s, a, b, c⟩ := h
    exact absurd c (h2 s a b)
  · refine ⟨h1, canB_iff.2 fun s a b => ?_, ?_⟩
    · by_cases hp : 0 < sumS need s
      · have := h2 s a b hp
        exact (Int.le_ediv_iff_mul_le hp).1 this
      · have e : sumS need s = 0 := by have := sumS_nonneg (fun x hx => (hn x hx).1) s; omega
        rw [e, Int.mul_zero]
        exact ofP_nonneg hl s
    · cases hc : canB need l (quF need l (allS need.length) + 1) with
      | false => rfl
      | true =>
        have := canB_iff.1 hc s0 h3.1 h3.2
        rw [h5] at this
        have := (Int.le_ediv_iff_mul_le h4).2 this
        omega
end Go.Proofs.Ytpamkihpffoflaa
