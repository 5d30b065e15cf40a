/-
  What Fill returns is an assignment, in plain Lean.
-/
import Derived.Test.YtpamkihpffoflaaBxA
set_option linter.unusedVariables false
set_option linter.unusedSimpArgs false
namespace Go.Proofs.Ytpamkihpffoflaa
open Go.AF

/-- How many pencils of shade s the first k piles give. -/
def colS (rows : List (List Int)) (s k : Nat) : Int := isum (fun i => (rows[i]?.getD [])[s]?.getD 0) k
/-- An assignment. -/
structure Asg (need : List Int) (l : List Pl) (b : Int) (rows : List (List Int)) : Prop where
  len : rows.length = l.length
  rl : ∀ r ∈ rows, r.length = need.length
  pos : ∀ (i s : Nat), i < l.length → s < need.length → 0 ≤ (rows[i]?.getD [])[s]?.getD 0 ∧ (0 < (rows[i]?.getD [])[s]?.getD 0 → (l[i]?.getD ⟨0, 0⟩).s.testBit s = true)
  cap : ∀ i, i < l.length → (rows[i]?.getD []).sum ≤ (l[i]?.getD ⟨0, 0⟩).m
  col : ∀ s : Nat, s < need.length → colS rows s l.length = b * need[s]?.getD 0

theorem getD_set (l : List Int) (k i : Nat) (x : Int) : (l.set k x)[i]?.getD 0 = if i = k ∧ k < l.length then x else l[i]?.getD 0 := by
  rw [List.getElem?_set]
  by_cases e : k = i
  · subst e
    by_cases h : k < l.length
    · simp [h]
    · simp [h]
  · simp [e, Ne.symm e]
theorem sum_set : ∀ (l : List Int) (k : Nat) (x : Int), k < l.length → (l.set k x).sum = l.sum - l[k]?.getD 0 + x
  | [], k, x, h => by simp at h
  | a :: l, 0, x, h => by simp; omega
  | a :: l, k + 1, x, h => by
    have := sum_set l k x (by simpa using h)
    simp at this ⊢
    omega
theorem sum_rep (n : Nat) : (List.replicate n (0 : Int)).sum = 0 := by
  induction n with
  | zero => rfl
  | succ n ih => rw [List.replicate_succ, List.sum_cons, ih]; rfl
theorem getD_rep (n i : Nat) : (List.replicate n (0 : Int))[i]?.getD 0 = 0 := by
  rw [List.getElem?_replicate]
  split <;> rfl

section
variable {l : List Pl} {L i : Nat} {v : List Int}
/-- What was sold of a pile so far. -/
structure RInv (l : List Pl) (L : Nat) (v : List Int) (i k : Nat) (t : FSt) : Prop where
  zero : ∀ s : Nat, k ≤ s → t.row[s]?.getD 0 = 0
  bit : ∀ s : Nat, t.row[s]?.getD 0 ≠ 0 → (l[i]?.getD ⟨0, 0⟩).s.testBit s = true
  q : ∀ s : Nat, t.q.testBit s = true → (l[i]?.getD ⟨0, 0⟩).s.testBit s = true
  sum : t.row.sum + t.m = (l[i]?.getD ⟨0, 0⟩).m
  sold : ∀ s : Nat, t.row[s]?.getD 0 + t.v[s]?.getD 0 = (leftF l L v i)[s]?.getD 0
theorem midF_rows (hl : okP L l) (h : LInv l L v) (hi : i < l.length) : ∀ k, k ≤ L → RInv l L v i k (midF l L v i k)
  | 0, _ => by
    rw [midF_0 hi]
    have e : l[i]?.getD ⟨0, 0⟩ = l[i] := by simp [hi]
    refine ⟨fun s _ => getD_rep L s, fun s hs => absurd (getD_rep L s) hs, fun s hs => by rw [e]; exact hs, by rw [e, sum_rep]; simp, fun s => by rw [getD_rep]; simp⟩
  | k + 1, hk => by
    have ih := midF_rows hl h hi k (by omega)
    have hF := midF_inv hl h hi k (by omega)
    cases hq : (midF l L v i k).q.testBit k with
    | false =>
      rw [midF_no hq]
      exact ⟨fun s hs => ih.zero s (by omega), ih.bit, ih.q, ih.sum, ih.sold⟩
    | true =>
      rw [midF_yes hq]
      have hkr : k < (midF l L v i k).row.length := by rw [hF.rlen]; omega
      have hkv : k < (midF l L v i k).v.length := by rw [hF.len]; omega
      have hz := ih.zero k (Nat.le_refl _)
      refine ⟨fun s hs => ?_, fun s hs => ?_, fun s hs => ?_, ?_, fun s => ?_⟩
      · show ((midF l L v i k).row.set k _)[s]?.getD 0 = 0
        rw [getD_set, if_neg (by omega)]
        exact ih.zero s (by omega)
      · replace hs : ((midF l L v i k).row.set k _)[s]?.getD 0 ≠ 0 := hs
        rw [getD_set] at hs
        split at hs
        · rename_i e; rw [e.1]; exact ih.q k hq
        · exact ih.bit s hs
      · replace hs : (dropB (midF l L v i k).q k).testBit s = true := hs
        rw [testBit_dropB] at hs
        simp at hs
        exact ih.q s hs.1
      · show ((midF l L v i k).row.set k _).sum + ((midF l L v i k).m - _) = _
        rw [sum_set _ _ _ hkr, hz, ← ih.sum]
        omega
      · show ((midF l L v i k).row.set k _)[s]?.getD 0 + (lessV (midF l L v i k).v k _)[s]?.getD 0 = _
        rw [getD_set, lessV_get, ← ih.sold s]
        by_cases e : s = k
        · subst e
          rw [if_pos ⟨rfl, hkr⟩, if_pos ⟨rfl, hkv⟩, hz]
          omega
        · rw [if_neg (fun x => e x.1), if_neg (fun x => e x.1)]
theorem rowF_rows (hl : okP L l) (h : LInv l L v) (hi : i < l.length) : RInv l L v i L (pileF l L (leftF l L v i) i) := midF_rows hl h hi L (Nat.le_refl _)
theorem rowsF_get (n : Nat) (hi : i < n) : (rowsF l L v n)[i]?.getD [] = rowF l L v i := by simp [rowsF, hi]
theorem colS_left (hl : okP L l) (h : LInv l L v) (s : Nat) : ∀ k, k ≤ l.length → colS (rowsF l L v l.length) s k = v[s]?.getD 0 - (leftF l L v k)[s]?.getD 0
  | 0, _ => by simp [colS, isum, leftF]
  | k + 1, hk => by
    have ih := colS_left hl h s k (by omega)
    unfold colS at ih ⊢
    simp only [isum]
    rw [ih, rowsF_get _ (by omega)]
    have := (rowF_rows hl h (i := k) (by omega)).sold s
    show _ - _ + (rowF l L v k)[s]?.getD 0 = _ - ((pileF l L (leftF l L v k) k).v)[s]?.getD 0
    have e : (rowF l L v k)[s]?.getD 0 = (pileF l L (leftF l L v k) k).row[s]?.getD 0 := rfl
    rw [e]
    omega
theorem sumS_one (v : List Int) (s : Nat) : sumS v (2 ^ s) = v[s]?.getD 0 := by
  unfold sumS
  by_cases hs : s < v.length
  · have := isum_turn (f := fun _ => (0 : Int)) (g := fun i => if (2 ^ s).testBit i then v[i]?.getD 0 else 0) v.length hs (fun j _ hj => by
      rw [Nat.testBit_two_pow]; simp [Ne.symm hj])
    rw [this, isum_zero _ (fun _ _ => rfl), Nat.testBit_two_pow]
    simp
  · rw [isum_zero _ (fun j hj => by
      rw [Nat.testBit_two_pow]
      have : ¬ s = j := by omega
      simp [this])]
    simp [List.getElem?_eq_none (by omega : v.length ≤ s)]
theorem left_end (hl : okP L l) (h : LInv l L v) (s : Nat) : (leftF l L v l.length)[s]?.getD 0 = 0 := by
  have h1 := leftF_inv hl h l.length (Nat.le_refl _)
  have h2 := h1.H (2 ^ s)
  rw [sumS_one, List.drop_length] at h2
  have h3 : 0 ≤ (leftF l L v l.length)[s]?.getD 0 := getD_nonneg (fun x hx => (h1.pos x hx).1) s
  simp [ofP] at h2
  omega
theorem timesV_get1 (need : List Int) (b : Int) (s : Nat) : (timesV need b)[s]?.getD 0 = b * need[s]?.getD 0 := by
  unfold timesV
  rw [List.getElem?_map]
  cases need[s]? with
  | none => simp
  | some x => simp [Int.mul_comm]
end
theorem fill_asg {need : List Int} {l : List Pl} {b : Int} (hl : okP need.length l) (h : LInv l need.length (timesV need b)) : Asg need l b (rowsF l need.length (timesV need b) l.length) := by
  refine ⟨rowsF_length _ _ _ _, rowsF_mem hl h (Nat.le_refl _), fun i s hi hs => ?_, fun i hi => ?_, fun s hs => ?_⟩
  · rw [rowsF_get _ hi]
    have h1 := (pileF_inv hl hi (leftF_inv hl h i (by omega))).1
    have h2 := rowF_rows hl h hi
    have h3 : 0 ≤ (rowF l need.length (timesV need b) i)[s]?.getD 0 := getD_nonneg (fun x hx => (h1.row x hx).1) s
    exact ⟨h3, fun hp => h2.bit s (by show (rowF l need.length (timesV need b) i)[s]?.getD 0 ≠ 0; omega)⟩
  · rw [rowsF_get _ hi]
    have h1 := (pileF_inv hl hi (leftF_inv hl h i (by omega))).1
    have h2 := (rowF_rows hl h hi).sum
    have h3 := h1.m0
    show (pileF l need.length (leftF l need.length (timesV need b) i) i).row.sum ≤ _
    omega
  · rw [colS_left hl h s _ (Nat.le_refl _), left_end hl h, timesV_get1]
    omega

/-! ### What an assignment's sums are -/
theorem psum {r : List Int} (h : ∀ x ∈ r, 0 ≤ x) : ∀ k, 0 ≤ (r.take k).sum ∧ (r.take k).sum ≤ r.sum := by
  induction r with
  | nil => intro k; simp
  | cons a r ih =>
    intro k
    have ha := h a (by simp)
    have hr := ih (fun x hx => h x (by simp [hx]))
    cases k with
    | zero => have := hr r.length; rw [List.take_length] at this; simp; omega
    | succ k => have := hr k; simp; omega
theorem elem_sum {r : List Int} (h : ∀ x ∈ r, 0 ≤ x) : ∀ x ∈ r, x ≤ r.sum := by
  induction r with
  | nil => intro x hx; cases hx
  | cons a r ih =>
    intro x hx
    have ha := h a (by simp)
    have hs := psum (fun x hx => h x (by simp [hx]) : ∀ x ∈ r, 0 ≤ x) r.length
    rw [List.take_length] at hs
    rcases List.mem_cons.1 hx with rfl | hx
    · simp; omega
    · have := ih (fun x hx => h x (by simp [hx])) x hx
      simp; omega
section
variable {need : List Int} {l : List Pl} {b : Int} {rows : List (List Int)}
theorem Asg.row (h : Asg need l b rows) (hl : okP need.length l) {i : Nat} (hi : i < l.length) : ∃ hi' : i < rows.length, (∀ x ∈ rows[i], 0 ≤ x ∧ x ≤ 1048576) ∧ rows[i].sum ≤ (l[i]?.getD ⟨0, 0⟩).m ∧ rows[i].length = need.length := by
  have hi' : i < rows.length := by rw [h.len]; exact hi
  have hrl := h.rl rows[i] (List.getElem_mem _)
  have hp : ∀ x ∈ rows[i], 0 ≤ x := fun x hx => by
    obtain ⟨s, hs, rfl⟩ := List.getElem_of_mem hx
    have := (h.pos i s hi (by omega)).1
    simp [hi', hs] at this
    exact this
  have hc := h.cap i hi
  have e : rows[i]?.getD [] = rows[i] := by simp [hi']
  rw [e] at hc
  have hm : (l[i]?.getD ⟨0, 0⟩).m ≤ 1048576 := by
    have e2 : l[i]?.getD ⟨0, 0⟩ = l[i] := by simp [hi]
    rw [e2]; exact (hl.2 l[i] (List.getElem_mem _)).2.2
  exact ⟨hi', fun x hx => ⟨hp x hx, by have := elem_sum hp x hx; omega⟩, hc, hrl⟩
theorem Asg.colB (h : Asg need l b rows) (hl : okP need.length l) (s : Nat) (k : Nat) (hk : k ≤ l.length) : 0 ≤ colS rows s k ∧ colS rows s k ≤ 8388608 := by
  have h1 := isum_B (f := fun i => (rows[i]?.getD [])[s]?.getD 0) (A := 0) (B := 1048576) k (fun j hj => by
    obtain ⟨hi', hx, _, hrl⟩ := h.row hl (show j < l.length by omega)
    have e : rows[j]?.getD [] = rows[j] := by simp [hi']
    rw [e]
    by_cases hs : s < rows[j].length
    · rw [List.getElem?_eq_getElem hs]; exact hx _ (List.getElem_mem _)
    · rw [List.getElem?_eq_none (by omega)]; simp)
  have := hl.1
  unfold colS
  have : (1048576 : Int) * (k : Int) ≤ 1048576 * 8 := Int.mul_le_mul_of_nonneg_left (by omega) (by omega)
  omega
end
/-- What each shade was sold of the first piles. -/
def soldA (rows : List (List Int)) (L i k : Nat) : List Int := (List.range L).map fun s => if s < k then colS rows s (i + 1) else colS rows s i
theorem soldA_len (rows : List (List Int)) (L i k : Nat) : (soldA rows L i k).length = L := by simp [soldA]
theorem soldA_get {rows : List (List Int)} {L i k s : Nat} (hs : s < L) : (soldA rows L i k)[s]'(by rw [soldA_len]; exact hs) = if s < k then colS rows s (i + 1) else colS rows s i := by simp [soldA]
theorem soldA_set {rows : List (List Int)} {L i k : Nat} (hk : k < L) : (soldA rows L i k).set k (colS rows k (i + 1)) = soldA rows L i (k + 1) := by
  apply List.ext_getElem?
  intro s
  rw [List.getElem?_set, soldA_len]
  by_cases e : k = s
  · subst e; simp [hk, soldA]
  · by_cases hs : s < L
    · rw [if_neg e, List.getElem?_eq_getElem (by rw [soldA_len]; exact hs), List.getElem?_eq_getElem (by rw [soldA_len]; exact hs), soldA_get hs, soldA_get hs]
      by_cases h1 : s < k
      · rw [if_pos h1, if_pos (by omega)]
      · rw [if_neg h1, if_neg (by omega)]
    · rw [if_neg e, List.getElem?_eq_none (by rw [soldA_len]; omega), List.getElem?_eq_none (by rw [soldA_len]; omega)]
theorem soldA_next (rows : List (List Int)) (L i : Nat) : soldA rows L i L = soldA rows L (i + 1) 0 := by
  unfold soldA
  apply List.map_congr_left
  intro s hs
  rw [if_pos (List.mem_range.1 hs), if_neg (by omega)]
theorem soldA_0 (rows : List (List Int)) (L : Nat) : List.replicate L (0 : Int) = soldA rows L 0 0 := by
  apply List.ext_getElem?
  intro s
  by_cases hs : s < L
  · have e : (soldA rows L 0 0)[s]? = some 0 := by
      rw [List.getElem?_eq_getElem (by rw [soldA_len]; exact hs), soldA_get hs]
      simp [colS, isum]
    rw [e]; simp [hs]
  · rw [List.getElem?_eq_none (by simp; omega), List.getElem?_eq_none (by rw [soldA_len]; omega)]
theorem colS_succ {rows : List (List Int)} {s i : Nat} (hi : i < rows.length) (hs : s < rows[i].length) : colS rows s (i + 1) = colS rows s i + rows[i][s] := by
  simp [colS, isum, hi, hs]
def usedL (rows : List (List Int)) : List Int := rows.map List.sum
theorem usedL_take {rows : List (List Int)} {k : Nat} (h : k < rows.length) : usedL (rows.take (k + 1)) = usedL (rows.take k) ++ [rows[k].sum] := by
  unfold usedL; rw [← List.take_append_getElem h, List.map_append]; rfl

/-! ### Answers, number by number -/
def mN (need : List Int) (l : List Pr) : Int := (mostR need l).1
def mP (need : List Int) (l : List Pr) : Int := (mostR need l).2.1
def mE (need : List Int) (l : List Pr) : Int := (mostR need l).2.2
def fR (need : List Int) (l : List Pr) (b : Int) : List (List Int) := (fillR need l b).1
def fE (need : List Int) (l : List Pr) (b : Int) : Int := (fillR need l b).2
def lS (need : List Int) (l : List Pr) (b : Int) : Int := (lackR need l b).1
def lN (need : List Int) (l : List Pr) (b : Int) : Int := (lackR need l b).2.1
def lE (need : List Int) (l : List Pr) (b : Int) : Int := (lackR need l b).2.2
def uL (need : List Int) (l : List Pr) (b k : Int) : Int := (useR need l b k).1
def uH (need : List Int) (l : List Pr) (b k : Int) : Int := (useR need l b k).2.1
def uE (need : List Int) (l : List Pr) (b k : Int) : Int := (useR need l b k).2.2
theorem most_n (need : List Int) (l : List Pr) (hnl : need.length ≤ bigN) (hll : l.length ≤ bigN) : Pure Try.prog 12 [intsV need, rawV l] (.tuple [.int .i64 (mN need l), .int .i64 (mP need l), .int .i64 (mE need l)]) := bmost_ok need l hnl hll
theorem fill_n (need : List Int) (l : List Pr) (b : Int) (hnl : need.length ≤ bigN) (hll : l.length ≤ bigN) : Pure Try.prog 16 [intsV need, rawV l, .int .i64 b] (.tuple [rowsV need.length (fR need l b), .int .i64 (fE need l b)]) := bfill_ok need l b hnl hll
theorem lack_n (need : List Int) (l : List Pr) (b : Int) (hnl : need.length ≤ bigN) (hll : l.length ≤ bigN) : Pure Try.prog 14 [intsV need, rawV l, .int .i64 b] (.tuple [.int .i64 (lS need l b), .int .i64 (lN need l b), .int .i64 (lE need l b)]) := bLack_ok need l b hnl hll
theorem use_n (need : List Int) (l : List Pr) (b k : Int) (hnl : need.length ≤ bigN) (hll : l.length ≤ bigN) : Pure Try.prog 18 [intsV need, rawV l, .int .i64 b, .int .i64 k] (.tuple [.agg [.int .i64 (uL need l b k), .int .i64 (uH need l b k)], .int .i64 (uE need l b k)]) := buse_ok need l b k hnl hll
theorem most_no {need : List Int} {l : List Pr} (h : ¬ Vld need l) : mN need l = 0 ∧ mP need l = 0 ∧ mE need l = 1 := by
  unfold mN mP mE mostR; rw [if_neg h]; exact ⟨rfl, rfl, rfl⟩
theorem most_yes {need : List Int} {l : List Pr} (h : Vld need l) : ∃ q pf : Nat, mN need l = (q : Int) ∧ mP need l = (pf : Int) ∧ mE need l = 0 ∧ q ≤ 8388608 ∧ 1 ≤ pf ∧ pf ≤ allS need.length ∧ ofP (toPl l) pf < ((q : Int) + 1) * sumS need pf ∧ canB need (toPl l) (q : Int) = true ∧ canB need (toPl l) ((q : Int) + 1) = false := by
  have hl := toPl_ok h
  have hn := h.2.2.1
  have hs : 0 < sumS need (allS need.length) := by rw [sumS_all]; exact h.2.2.2.2
  have h2 : 2 ^ 1 ≤ 2 ^ need.length := Nat.pow_le_pow_right (by omega) h.1.1
  obtain ⟨a, b, c⟩ := most_spec (l := toPl l) hl.pos hn ⟨allS need.length, by unfold allS; omega, Nat.le_refl _, hs⟩
  have hb := quF_B hn h.1.2 hl (allS need.length)
  rcases pfF_spec need (toPl l) (quF need (toPl l) (allS need.length) + 1) (allS need.length) with ⟨_, h4⟩ | ⟨h4, h5, _⟩
  · rw [canB_iff.2 h4] at c; cases c
  · have e : mostR need l = (quF need (toPl l) (allS need.length), (pfF need (toPl l) (quF need (toPl l) (allS need.length) + 1) (allS need.length) : Int), 0) := by unfold mostR; rw [if_pos h, if_neg (by omega)]
    have eq : quF need (toPl l) (allS need.length) = ((quF need (toPl l) (allS need.length)).toNat : Int) := by omega
    refine ⟨(quF need (toPl l) (allS need.length)).toNat, pfF need (toPl l) (quF need (toPl l) (allS need.length) + 1) (allS need.length), ?_, ?_, ?_, by omega, h4.1, h4.2, ?_, ?_, ?_⟩
    · unfold mN; rw [e]; exact eq
    · unfold mP; rw [e]
    · unfold mE; rw [e]
    · rw [← eq]; exact h5
    · rw [← eq]; exact b
    · rw [← eq]; exact c
theorem check_ok {need : List Int} {l : List Pr} {b : Int} (h : Vld need l) (b0 : 0 ≤ b) (b1 : b ≤ 1048576) : checkR need l b = 0 := by
  unfold checkR; rw [if_pos h, if_pos ⟨b0, b1⟩]
theorem canB_eq {need : List Int} {l : List Pl} {b : Int} {c : Bool} (h : canB need l b = c) : decide ((lkF (timesV need b) l (allS need.length)).2 = 0) = c := h
theorem fill_yes {need : List Int} {l : List Pr} {b : Int} (h : Vld need l) (b0 : 0 ≤ b) (b1 : b ≤ 1048576) (hc : canB need (toPl l) b = true) : fE need l b = 0 ∧ Asg need (toPl l) b (fR need l b) ∧ fR need l b = rowsF (toPl l) need.length (timesV need b) (toPl l).length := by
  have hz : (lkF (timesV need b) (toPl l) (allS need.length)).2 = 0 := of_decide_eq_true hc
  have e : fillR need l b = (rowsF (toPl l) need.length (timesV need b) (toPl l).length, 0) := by unfold fillR; rw [if_pos (check_ok h b0 b1), if_pos hz]
  have hLI := LInv.ok (toPl_ok h) h.2.2.1 h.1.2 b0 (by omega) hz
  refine ⟨by unfold fE; rw [e], ?_, by unfold fR; rw [e]⟩
  unfold fR; rw [e]
  exact fill_asg (toPl_ok h) hLI
theorem fill_no {need : List Int} {l : List Pr} {b : Int} (h : Vld need l) (b0 : 0 ≤ b) (b1 : b ≤ 1048576) (hc : canB need (toPl l) b = false) : fE need l b = 10 ∧ fR need l b = [] := by
  have hz : ¬ (lkF (timesV need b) (toPl l) (allS need.length)).2 = 0 := of_decide_eq_false hc
  have e : fillR need l b = ([], 10) := by unfold fillR; rw [if_pos (check_ok h b0 b1), if_neg hz]
  exact ⟨by unfold fE; rw [e], by unfold fR; rw [e]⟩
theorem fill_bad {need : List Int} {l : List Pr} {b : Int} (h : checkR need l b ≠ 0) : fE need l b = checkR need l b ∧ fR need l b = [] := by
  have e : fillR need l b = ([], checkR need l b) := by unfold fillR; rw [if_neg h]
  exact ⟨by unfold fE; rw [e], by unfold fR; rw [e]⟩
theorem lack_bad {need : List Int} {l : List Pr} {b : Int} (h : checkR need l b ≠ 0) : lE need l b = checkR need l b ∧ lS need l b = 0 ∧ lN need l b = 0 := by
  have e : lackR need l b = (0, 0, checkR need l b) := by unfold lackR; rw [if_neg h]
  exact ⟨by unfold lE; rw [e], by unfold lS; rw [e], by unfold lN; rw [e]⟩
theorem lack_no {need : List Int} {l : List Pr} {b : Int} (h : Vld need l) (b0 : 0 ≤ b) (b1 : b ≤ 1048576) (hc : canB need (toPl l) b = true) : lE need l b = 4 ∧ lS need l b = 0 ∧ lN need l b = 0 := by
  have hz : (lkF (timesV need b) (toPl l) (allS need.length)).2 = 0 := of_decide_eq_true hc
  have e : lackR need l b = (0, 0, 4) := by unfold lackR; rw [if_pos (check_ok h b0 b1), if_pos hz]
  exact ⟨by unfold lE; rw [e], by unfold lS; rw [e], by unfold lN; rw [e]⟩
theorem lack_yes {need : List Int} {l : List Pr} {b : Int} (h : Vld need l) (b0 : 0 ≤ b) (b1 : b ≤ 1048576) (hc : canB need (toPl l) b = false) : ∃ s : Nat, lE need l b = 0 ∧ lS need l b = (s : Int) ∧ 1 ≤ s ∧ s ≤ allS need.length ∧ 0 < lN need l b ∧ lN need l b = b * sumS need s - ofP (toPl l) s ∧
    (∀ t, 1 ≤ t → t ≤ allS need.length → b * sumS need t - ofP (toPl l) t ≤ lN need l b) ∧ ∀ t, 1 ≤ t → t < s → b * sumS need t - ofP (toPl l) t < lN need l b := by
  have hz : ¬ (lkF (timesV need b) (toPl l) (allS need.length)).2 = 0 := of_decide_eq_false hc
  have e : lackR need l b = (((lkF (timesV need b) (toPl l) (allS need.length)).1 : Int), (lkF (timesV need b) (toPl l) (allS need.length)).2, 0) := by unfold lackR; rw [if_pos (check_ok h b0 b1), if_neg hz]
  have hge := lkF_ge (timesV need b) (toPl l) (allS need.length)
  rcases lkF_at (timesV need b) (toPl l) (allS need.length) with ⟨_, h2⟩ | ⟨h1, h2, h3, h4⟩
  · exact absurd h2 hz
  · have e2 : lN need l b = (lkF (timesV need b) (toPl l) (allS need.length)).2 := by unfold lN; rw [e]
    refine ⟨(lkF (timesV need b) (toPl l) (allS need.length)).1, by unfold lE; rw [e], by unfold lS; rw [e], h1.1, h1.2, by rw [e2]; exact h2, by rw [e2, h3, sumS_times], fun t a c => ?_, fun t a c => ?_⟩
    · rw [e2, ← sumS_times]; exact hge t a c
    · rw [e2, ← sumS_times]; exact h4 t a c
end Go.Proofs.Ytpamkihpffoflaa
