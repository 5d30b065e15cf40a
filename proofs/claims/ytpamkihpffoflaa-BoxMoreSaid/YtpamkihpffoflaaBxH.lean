/-
  What lacks is just enough; what was sold is as much as can be. In plain Lean.
-/
import Derived.Test.YtpamkihpffoflaaBxG
set_option linter.unusedVariables false
set_option linter.unusedSimpArgs false
namespace Go.Proofs.Ytpamkihpffoflaa
open Go.AF

theorem ofP_0 (l : List Pl) : ofP l 0 = 0 := by
  unfold ofP
  induction l with
  | nil => rfl
  | cons p l ih => simp at ih ⊢; exact ih
theorem toPl_app (l : List Pr) (p : Pr) : toPl (l ++ [p]) = toPl l ++ [⟨p.s.toNat, p.m⟩] := by simp [toPl]
theorem toPl_len (l : List Pr) : (toPl l).length = l.length := by simp [toPl]
theorem vld_app {need : List Int} {l : List Pr} {p : Pr} (h : Vld need l) (h8 : l.length < 8) (hp : okPr need.length p) : Vld need (l ++ [p]) := by
  refine ⟨h.1, by simp; omega, h.2.2.1, fun q hq => ?_, h.2.2.2.2⟩
  rcases List.mem_append.1 hq with hq | hq
  · exact h.2.2.2.1 q hq
  · simp at hq; subst hq; exact hp
theorem ofP_one (p : Pl) (t : Nat) : ofP [p] t = if p.s &&& t = 0 then 0 else p.m := by simp [ofP]
theorem lack_fix {need : List Int} {l : List Pl} {b n : Int} {s : Nat} (hl : posP l) (hs : s ≤ allS need.length) (hn0 : 0 ≤ n) (hn : n = b * sumS need s - ofP l s) (hmax : ∀ t, 1 ≤ t → t ≤ allS need.length → b * sumS need t - ofP l t ≤ n) : canB need (l ++ [⟨s, n⟩]) b = true := by
  rw [canB_iff]
  intro t h1 h2
  rw [ofP_append, ofP_one]
  have hp := pow_pos' need.length
  have hA : allS need.length = 2 ^ need.length - 1 := rfl
  by_cases hz : s &&& t = 0
  · rw [if_pos hz]
    have hu : s ||| t < 2 ^ need.length := Nat.or_lt_two_pow (by omega) (by omega)
    have hu1 : 1 ≤ s ||| t := Nat.le_trans h1 Nat.right_le_or
    have h3 := hmax (s ||| t) hu1 (by omega)
    have h4 := sumS_mod need s t
    have h5 := ofP_sub hl s t
    rw [hz, sumS_zero] at h4
    rw [hz, ofP_0] at h5
    have h6 : sumS need (s ||| t) = sumS need s + sumS need t := by omega
    rw [h6, Int.mul_add] at h3
    omega
  · simp only [if_neg hz]
    have := hmax t h1 h2
    omega
theorem lack_less {need : List Int} {l : List Pl} {b n : Int} {s : Nat} (h1 : 1 ≤ s) (hs : s ≤ allS need.length) (hn : n = b * sumS need s - ofP l s) : canB need (l ++ [⟨allS need.length, n - 1⟩]) b = false := by
  cases h : canB need (l ++ [⟨allS need.length, n - 1⟩]) b with
  | false => rfl
  | true =>
    have h3 := canB_iff.1 h s h1 hs
    rw [ofP_append, ofP_one] at h3
    have e : allS need.length &&& s = s := by
      rw [Nat.and_comm]
      apply Nat.eq_of_testBit_eq
      intro i
      rw [Nat.testBit_and]
      by_cases hi : i < need.length
      · rw [allS_bit _ i hi, Bool.and_true]
      · have hp := pow_pos' need.length
        have hA : allS need.length = 2 ^ need.length - 1 := rfl
        have : s.testBit i = false := Nat.testBit_lt_two_pow (Nat.lt_of_lt_of_le (show s < 2 ^ need.length by omega) (Nat.pow_le_pow_right (by omega) (by omega)))
        rw [this]; rfl
    simp only [e] at h3
    rw [if_neg (by omega)] at h3
    omega

/-! ### Each number is as great as it can be -/
section
variable {l : List Pl} {L i : Nat} {v : List Int}
theorem midF_q (hi : i < l.length) : ∀ k j, (midF l L v i k).q.testBit j = (l[i].s.testBit j && decide (k ≤ j))
  | 0, j => by rw [midF_0 hi]; simp
  | k + 1, j => by
    have ih := midF_q hi k j
    have ihk := midF_q hi k k
    simp only [Nat.le_refl, decide_true, Bool.and_true] at ihk
    cases hq : (midF l L v i k).q.testBit k with
    | true =>
      rw [midF_yes hq]
      show (dropB (midF l L v i k).q k).testBit j = _
      rw [testBit_dropB, ih]
      by_cases e : j = k
      · subst e; simp
      · have : decide (k + 1 ≤ j) = decide (k ≤ j) := by simp; omega
        rw [this]; simp [e]
    | false =>
      rw [midF_no hq, ih]
      by_cases e : j = k
      · subst e; rw [hq] at ihk; rw [← ihk]; simp
      · have : decide (k + 1 ≤ j) = decide (k ≤ j) := by simp; omega
        rw [this]
theorem midF_q_eq (hi : i < l.length) (k : Nat) : (midF l L v i k).q = l[i].s / 2 ^ k * 2 ^ k := by
  apply Nat.eq_of_testBit_eq
  intro j
  rw [midF_q hi, Nat.testBit_mul_two_pow]
  by_cases h : k ≤ j
  · rw [Nat.testBit_div_two_pow]
    simp [h]
  · simp [h]
theorem midF_row_step (k j : Nat) (h : j ≠ k) : (midF l L v i (k + 1)).row[j]?.getD 0 = (midF l L v i k).row[j]?.getD 0 := by
  cases hq : (midF l L v i k).q.testBit k with
  | true =>
    rw [midF_yes hq]
    show ((midF l L v i k).row.set k _)[j]?.getD 0 = _
    rw [getD_set, if_neg (fun x => h x.1)]
  | false => rw [midF_no hq]
theorem midF_row_stay (k j : Nat) (h : j < k) : ∀ d, (midF l L v i (k + d)).row[j]?.getD 0 = (midF l L v i k).row[j]?.getD 0
  | 0 => rfl
  | d + 1 => by
    rw [← midF_row_stay k j h d]
    exact midF_row_step (k + d) j (by omega)
theorem row_stay (k j : Nat) (h : j < k) (hk : k ≤ L) : (rowF l L v i)[j]?.getD 0 = (midF l L v i k).row[j]?.getD 0 := by
  have := midF_row_stay (l := l) (L := L) (v := v) (i := i) k j h (L - k)
  rw [show k + (L - k) = L by omega] at this
  exact this
/-- What is left behind shade k. -/
theorem mid_left (hl : okP L l) (h : LInv l L v) (hi : i < l.length) (k : Nat) (hk : k ≤ L) (s : Nat) : (midF l L v i k).v[s]?.getD 0 = v[s]?.getD 0 - colS (rowsF l L v l.length) s i - if s < k then (rowF l L v i)[s]?.getD 0 else 0 := by
  have h1 := (midF_rows hl h hi k hk).sold s
  have h2 := colS_left hl h s i (by omega)
  by_cases hs : s < k
  · rw [if_pos hs, row_stay k s hs hk]
    omega
  · rw [if_neg hs]
    have := (midF_rows hl h hi k hk).zero s (by omega)
    omega
theorem take_sum_get (r : List Int) : ∀ k, (r.take k).sum = isum (fun j => r[j]?.getD 0) k
  | 0 => by simp [isum]
  | k + 1 => by
    simp only [isum]
    rw [← take_sum_get r k]
    by_cases h : k < r.length
    · rw [take_sum h]; simp [h]
    · rw [List.take_of_length_le (by omega), List.take_of_length_le (by omega), List.getElem?_eq_none (by omega)]; simp
/-- What is left of the pile behind shade k. -/
theorem mid_own (hl : okP L l) (h : LInv l L v) (hi : i < l.length) (k : Nat) (hk : k ≤ L) : (midF l L v i k).m = l[i].m - ((rowF l L v i).take k).sum := by
  have h1 := midF_rows hl h hi k hk
  have h2 := h1.sum
  have e : l[i]?.getD ⟨0, 0⟩ = l[i] := by simp [hi]
  rw [e] at h2
  have hF := midF_inv hl h hi k hk
  have h3 : (midF l L v i k).row.sum = ((rowF l L v i).take k).sum := by
    have e1 := take_sum_get (midF l L v i k).row L
    rw [List.take_of_length_le (by rw [hF.rlen]; exact Nat.le_refl _)] at e1
    rw [e1, take_sum_get]
    have gen : ∀ d, k + d ≤ L → isum (fun j => (midF l L v i k).row[j]?.getD 0) (k + d) = isum (fun j => (midF l L v i k).row[j]?.getD 0) k := by
      intro d
      induction d with
      | zero => intro _; rfl
      | succ d ih =>
        intro hd
        have h4 := h1.zero (k + d) (by omega)
        show isum _ (k + d) + (midF l L v i k).row[k + d]?.getD 0 = _
        rw [ih (by omega), h4]; simp
    have := gen (L - k) (by omega)
    rw [show k + (L - k) = L by omega] at this
    rw [this]
    exact isum_congr k fun j hj => (row_stay k j hj hk).symm
  omega
/-- One pencil more leaves a set short. -/
theorem greedy_max (hl : okP L l) (h : LInv l L v) (hi : i < l.length) {s : Nat} (hs : s < L) (hb : l[i].s.testBit s = true) (hm : 0 ≤ (midF l L v i (s + 1)).m - 1) (hv : 0 ≤ (midF l L v i (s + 1)).v[s]?.getD 0 - 1) :
    ∃ t, 1 ≤ t ∧ t ≤ allS L ∧ ofP (⟨l[i].s / 2 ^ (s + 1) * 2 ^ (s + 1), (midF l L v i (s + 1)).m - 1⟩ :: l.drop (i + 1)) t < sumS ((midF l L v i (s + 1)).v.set s ((midF l L v i (s + 1)).v[s]?.getD 0 - 1)) t := by
  have hq : (midF l L v i s).q.testBit s = true := by rw [midF_q hi, hb]; simp
  have hF := midF_inv hl h hi s (by omega)
  have hkv : s < (midF l L v i s).v.length := by rw [hF.len]; exact hs
  obtain ⟨⟨h1, h2, h3⟩, h4⟩ := nF_spec (midF l L v i s).v (dropB (midF l L v i s).q s) (midF l L v i s).m (l.drop (i + 1)) s (allS L)
  have hq1 : (midF l L v i (s + 1)).q = dropB (midF l L v i s).q s := by rw [midF_yes hq]
  rw [← midF_q_eq hi (s + 1) (L := L) (v := v), hq1]
  rw [midF_yes hq] at hm hv ⊢
  change 0 ≤ (midF l L v i s).m - nF _ _ _ _ _ _ - 1 at hm
  change 0 ≤ (lessV (midF l L v i s).v s (nF _ _ _ _ _ _))[s]?.getD 0 - 1 at hv
  rw [lessV_get, if_pos ⟨rfl, hkv⟩] at hv
  rcases h4 with e | e | ⟨t, h5, h6, h7, h8, h9⟩
  · omega
  · omega
  · refine ⟨t, h5, h6, ?_⟩
    show ofP (⟨dropB (midF l L v i s).q s, (midF l L v i s).m - nF _ _ _ _ _ _ - 1⟩ :: l.drop (i + 1)) t < sumS ((lessV (midF l L v i s).v s (nF _ _ _ _ _ _)).set s ((lessV (midF l L v i s).v s (nF _ _ _ _ _ _))[s]?.getD 0 - 1)) t
    rw [ofP_cons]
    have hz : ¬ dropB (midF l L v i s).q s &&& t = 0 := by rw [Nat.and_comm]; exact h8
    simp only [if_neg hz]
    have e1 : sumS ((lessV (midF l L v i s).v s (nF (midF l L v i s).v (dropB (midF l L v i s).q s) (midF l L v i s).m (l.drop (i + 1)) s (allS L))).set s ((lessV (midF l L v i s).v s (nF (midF l L v i s).v (dropB (midF l L v i s).q s) (midF l L v i s).m (l.drop (i + 1)) s (allS L)))[s]?.getD 0 - 1)) t = sumS (midF l L v i s).v t := by
      unfold sumS
      have el : ((lessV (midF l L v i s).v s (nF (midF l L v i s).v (dropB (midF l L v i s).q s) (midF l L v i s).m (l.drop (i + 1)) s (allS L))).set s ((lessV (midF l L v i s).v s (nF (midF l L v i s).v (dropB (midF l L v i s).q s) (midF l L v i s).m (l.drop (i + 1)) s (allS L)))[s]?.getD 0 - 1)).length = (midF l L v i s).v.length := by simp [lessV_length]
      rw [el]
      refine isum_congr _ fun j hj => ?_
      by_cases e : j = s
      · subst e; rw [h7]; simp
      · have e9 : ∀ n m : Int, ((lessV (midF l L v i s).v s n).set s m)[j]?.getD 0 = (midF l L v i s).v[j]?.getD 0 := fun n m => by
          rw [getD_set, if_neg (fun x => e x.1), lessV_get, if_neg (fun x => e x.1)]
        rw [e9]
    rw [e1]
    omega
end
end Go.Proofs.Ytpamkihpffoflaa
