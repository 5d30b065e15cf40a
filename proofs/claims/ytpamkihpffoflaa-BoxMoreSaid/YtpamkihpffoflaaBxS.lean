/-
  How boxes are filled, and how many pencils of a pile are needed, in plain Lean.
-/
import Derived.Test.YtpamkihpffoflaaBxR
import Derived.Test.YtpamkihpffoflaaAfF
set_option linter.unusedVariables false
set_option linter.unusedSimpArgs false
namespace Go.Proofs.Ytpamkihpffoflaa
open Go.AF

/-- How many pencils of a pile are sold as shade j, as far as sets up to some number tell. -/
def nF (v : List Int) (q : Nat) (m : Int) (rest : List Pl) (j : Nat) : Nat → Int
  | 0 => min m (v[j]?.getD 0)
  | k + 1 => if (k + 1).testBit j = false ∧ ¬ (k + 1) &&& q = 0 then min (nF v q m rest j k) (m + ofP rest (k + 1) - sumS v (k + 1)) else nF v q m rest j k
theorem nF_spec (v : List Int) (q : Nat) (m : Int) (rest : List Pl) (j : Nat) : ∀ K, (nF v q m rest j K ≤ m ∧ nF v q m rest j K ≤ v[j]?.getD 0 ∧ ∀ s, 1 ≤ s → s ≤ K → s.testBit j = false → ¬ s &&& q = 0 → nF v q m rest j K ≤ m + ofP rest s - sumS v s) ∧
    (nF v q m rest j K = m ∨ nF v q m rest j K = v[j]?.getD 0 ∨ ∃ s, 1 ≤ s ∧ s ≤ K ∧ s.testBit j = false ∧ ¬ s &&& q = 0 ∧ nF v q m rest j K = m + ofP rest s - sumS v s)
  | 0 => by
    refine ⟨⟨by simp only [nF]; omega, by simp only [nF]; omega, fun s h1 h2 => by omega⟩, ?_⟩
    simp only [nF]
    omega
  | k + 1 => by
    obtain ⟨⟨h1, h2, h3⟩, h4⟩ := nF_spec v q m rest j k
    by_cases hc : (k + 1).testBit j = false ∧ ¬ (k + 1) &&& q = 0
    · simp only [nF, if_pos hc]
      refine ⟨⟨by omega, by omega, fun s a b c d => ?_⟩, ?_⟩
      · by_cases e : s = k + 1
        · subst e; omega
        · have := h3 s a (by omega) c d; omega
      · by_cases hlt : nF v q m rest j k ≤ m + ofP rest (k + 1) - sumS v (k + 1)
        · have e : min (nF v q m rest j k) (m + ofP rest (k + 1) - sumS v (k + 1)) = nF v q m rest j k := by omega
          rw [e]
          rcases h4 with h | h | ⟨s, a, b, c⟩
          · exact .inl h
          · exact .inr (.inl h)
          · exact .inr (.inr ⟨s, a, by omega, c⟩)
        · exact .inr (.inr ⟨k + 1, by omega, by omega, hc.1, hc.2, by omega⟩)
    · simp only [nF, if_neg hc]
      refine ⟨⟨h1, h2, fun s a b c d => ?_⟩, ?_⟩
      · by_cases e : s = k + 1
        · subst e; exact absurd ⟨c, d⟩ hc
        · exact h3 s a (by omega) c d
      · rcases h4 with h | h | ⟨s, a, b, c⟩
        · exact .inl h
        · exact .inr (.inl h)
        · exact .inr (.inr ⟨s, a, by omega, c⟩)

/-- What is left, as which shades the pile may still be sold, how much of it there is, what was sold. -/
structure FSt where
  v : List Int
  q : Nat
  m : Int
  row : List Int
def fStep (rest : List Pl) (L j : Nat) (t : FSt) : FSt :=
  if t.q.testBit j then ⟨lessV t.v j (nF t.v (dropB t.q j) t.m rest j (allS L)), dropB t.q j, t.m - nF t.v (dropB t.q j) t.m rest j (allS L), t.row.set j (nF t.v (dropB t.q j) t.m rest j (allS L))⟩ else t
def fRun (rest : List Pl) (L : Nat) (t : FSt) : Nat → FSt
  | 0 => t
  | k + 1 => fStep rest L k (fRun rest L t k)

structure FInv (rest : List Pl) (L : Nat) (t : FSt) : Prop where
  len : t.v.length = L
  rlen : t.row.length = L
  pos : ∀ x ∈ t.v, 0 ≤ x ∧ x ≤ 1000000000000
  m0 : 0 ≤ t.m ∧ t.m ≤ 1048576
  q : t.q < 2 ^ L
  row : ∀ x ∈ t.row, 0 ≤ x ∧ x ≤ 1048576
  H : ∀ s, sumS t.v s ≤ (if t.q &&& s = 0 then 0 else t.m) + ofP rest s

theorem and_all {q L s : Nat} (h : q < 2 ^ L) : q &&& (s &&& allS L) = q &&& s := by
  apply Nat.eq_of_testBit_eq
  intro i
  simp only [Nat.testBit_and]
  by_cases hi : i < L
  · rw [allS_bit L i hi, Bool.and_true]
  · have : q.testBit i = false := Nat.testBit_lt_two_pow (Nat.lt_of_lt_of_le h (Nat.pow_le_pow_right (by omega) (by omega)))
    simp [this]
theorem sumS_allS (v : List Int) (s : Nat) : sumS v (s &&& allS v.length) = sumS v s := by
  unfold sumS
  exact isum_congr _ fun i hi => by rw [Nat.testBit_and, allS_bit _ i hi, Bool.and_true]
theorem le_allS (s L : Nat) : s &&& allS L ≤ allS L := Nat.and_le_right
theorem dropB_lt {q j L : Nat} (h : q < 2 ^ L) : dropB q j < 2 ^ L := by
  have : dropB q j ≤ q := by rw [← dropB_part q j]; exact Nat.and_le_right
  omega
theorem dropB_bit (q j : Nat) : (dropB q j).testBit j = false := by rw [testBit_dropB]; simp
theorem dropB_or {q j : Nat} (h : q.testBit j = true) : dropB q j ||| 2 ^ j = q := by
  apply Nat.eq_of_testBit_eq
  intro i
  rw [Nat.testBit_or, testBit_dropB, Nat.testBit_two_pow]
  by_cases e : j = i
  · subst e; simp [h]
  · have e2 : ¬ i = j := fun x => e x.symm
    simp [e, e2]
theorem dropB_meet {q j s : Nat} (h : s.testBit j = false) : q &&& s = 0 ↔ dropB q j &&& s = 0 := by
  rw [and_zero_iff, and_zero_iff]
  constructor
  · intro h1 i ⟨h2, h3⟩
    rw [testBit_dropB] at h2
    simp at h2
    exact h1 i ⟨h2.1, h3⟩
  · intro h1 i ⟨h2, h3⟩
    by_cases e : i = j
    · subst e; rw [h] at h3; cases h3
    · exact h1 i ⟨by rw [testBit_dropB]; simp [h2, e], h3⟩
theorem ofP_le {l : List Pl} (hl : posP l) {s t : Nat} (h : s &&& t = s) : ofP l s ≤ ofP l t := by
  have := ofP_part hl s t
  rw [h] at this; exact this
theorem lessV_get (v : List Int) (j : Nat) (n : Int) (i : Nat) : (lessV v j n)[i]?.getD 0 = if i = j ∧ j < v.length then v[j]?.getD 0 - n else v[i]?.getD 0 := by
  unfold lessV
  rw [List.getElem?_set]
  by_cases e : j = i
  · subst e
    by_cases h : j < v.length
    · simp [h]
    · simp [h]
  · simp [e, Ne.symm e]

section
variable {rest : List Pl} {L j : Nat} {t : FSt}
theorem nF_nonneg (hr : posP rest) (h : FInv rest L t) (hj : j < L) (hq : t.q.testBit j = true) : 0 ≤ nF t.v (dropB t.q j) t.m rest j (allS L) := by
  obtain ⟨_, h2⟩ := nF_spec t.v (dropB t.q j) t.m rest j (allS L)
  rcases h2 with h2 | h2 | ⟨s, h3, h4, h5, h6, h7⟩
  · rw [h2]; exact h.m0.1
  · rw [h2]
    have hlt : j < t.v.length := by rw [h.len]; exact hj
    rw [List.getElem?_eq_getElem hlt]
    exact (h.pos _ (List.getElem_mem _)).1
  · rw [h7]
    have := h.H s
    have hm := h.m0
    split at this <;> omega
theorem fStep_inv (hr : posP rest) (h : FInv rest L t) (hj : j < L) : FInv rest L (fStep rest L j t) := by
  unfold fStep
  split
  · rename_i hq
    have h0 := nF_nonneg hr h hj hq
    obtain ⟨⟨h1, h2, h3⟩, h4⟩ := nF_spec t.v (dropB t.q j) t.m rest j (allS L)
    generalize nF t.v (dropB t.q j) t.m rest j (allS L) = n at h0 h1 h2 h3 h4 ⊢
    have hlt : j < t.v.length := by rw [h.len]; exact hj
    have hvj := h.pos t.v[j] (List.getElem_mem _)
    rw [List.getElem?_eq_getElem hlt] at h2
    simp at h2
    refine ⟨by simp [lessV_length, h.len], by simp [h.rlen], fun x hx => ?_, by have := h.m0; show 0 ≤ t.m - n ∧ t.m - n ≤ 1048576; omega, dropB_lt h.q, fun x hx => ?_, ?_⟩
    · simp only [lessV] at hx
      rcases List.mem_or_eq_of_mem_set hx with h5 | rfl
      · exact h.pos x h5
      · rw [List.getElem?_eq_getElem hlt]; simp; omega
    · rcases List.mem_or_eq_of_mem_set hx with h5 | rfl
      · exact h.row x h5
      · have := h.m0; omega
    · show ∀ s, sumS (lessV t.v j n) s ≤ (if dropB t.q j &&& s = 0 then 0 else t.m - n) + ofP rest s
      refine greedy hlt (dropB_bit _ _) hr h1 (fun s => ?_) (fun s hs => ?_) ?_
      · rw [dropB_or hq]; exact h.H s
      · by_cases hz : dropB t.q j &&& s = 0
        · rw [if_pos hz]
          have := h.H s
          rw [if_pos ((dropB_meet hs).2 hz)] at this
          exact this
        · rw [if_neg hz]
          have hz2 : ¬ (s &&& allS L) &&& dropB t.q j = 0 := by rw [Nat.and_comm, and_all (dropB_lt h.q)]; exact hz
          have h1s : 1 ≤ s &&& allS L := by
            rcases Nat.eq_zero_or_pos (s &&& allS L) with e | e
            · rw [e] at hz2; simp at hz2
            · exact e
          have := h3 (s &&& allS L) h1s (le_allS _ _) (by rw [Nat.testBit_and, hs]; rfl) hz2
          rw [← h.len, sumS_allS] at this
          have h6 := ofP_le hr (s := s &&& allS t.v.length) (t := s) (by rw [Nat.and_comm, ← Nat.and_assoc, Nat.and_self])
          omega
      · rcases h4 with e | e | ⟨s, h5, h6, h7, h8, h9⟩
        · exact .inl e
        · exact .inr (.inl e)
        · exact .inr (.inr ⟨s, h7, by rw [Nat.and_comm]; exact h8, by omega⟩)
  · exact h
theorem fRun_inv (hr : posP rest) (h : FInv rest L t) : ∀ k, k ≤ L → FInv rest L (fRun rest L t k)
  | 0, _ => h
  | k + 1, hk => fStep_inv hr (fRun_inv hr h k (by omega)) (by omega)

/-- Of the shades that are not this one, all must still be there. -/
def ownB (L : Nat) (v : List Int) (q : Nat) (m : Int) (rest : List Pl) (j : Nat) (i : Nat) : Bool := decide ((lkF (v.set j 0) (⟨q, m - (i : Int)⟩ :: rest) (allS L)).2 = 0)
theorem sumS_out {v : List Int} {j : Nat} (hj : j < v.length) (s : Nat) : sumS (v.set j 0) s = sumS v (dropB s j) := by
  have e : v.set j 0 = lessV v j (v[j]?.getD 0) := by simp [lessV]
  rw [e, sumS_less hj]
  cases hs : s.testBit j with
  | true => rw [sumS_drop hj hs]; simp
  | false =>
    have : dropB s j = s := by simp [dropB, hs]
    rw [this]; simp
theorem ownB_iff (hr : posP rest) (h : FInv rest L t) (hj : j < L) (hq : t.q.testBit j = true) {i : Nat} (hi : (i : Int) ≤ min t.m (t.v[j]?.getD 0)) : ownB L t.v (dropB t.q j) t.m rest j i = true ↔ (i : Int) ≤ nF t.v (dropB t.q j) t.m rest j (allS L) := by
  have hlt : j < t.v.length := by rw [h.len]; exact hj
  obtain ⟨⟨h1, h2, h3⟩, h4⟩ := nF_spec t.v (dropB t.q j) t.m rest j (allS L)
  have hpos : posP (⟨dropB t.q j, t.m - (i : Int)⟩ :: rest) := fun p hp => by
    rcases List.mem_cons.1 hp with rfl | hp
    · show 0 ≤ t.m - (i : Int); omega
    · exact hr p hp
  unfold ownB
  rw [decide_eq_true_eq, lkF_zero]
  constructor
  · intro hc
    rcases h4 with e | e | ⟨s, h5, h6, h7, h8, h9⟩
    · omega
    · omega
    · have := hc s h5 h6
      rw [sumS_out hlt, ofP_cons] at this
      have e1 : dropB s j = s := by simp [dropB, h7]
      rw [e1] at this
      have hz : ¬ dropB t.q j &&& s = 0 := by rw [Nat.and_comm]; exact h8
      simp only [if_neg hz] at this
      omega
  · intro hn s hs1 hs2
    rw [sumS_out hlt, ofP_cons]
    have hd := dropB_part s j
    have hdb := dropB_bit s j
    have hrest := ofP_le hr hd
    by_cases hz : dropB t.q j &&& dropB s j = 0
    · have := h.H (dropB s j)
      rw [if_pos ((dropB_meet hdb).2 hz)] at this
      have h5 : 0 ≤ (if dropB t.q j &&& s = 0 then (0 : Int) else t.m - (i : Int)) := by split <;> omega
      show _ ≤ (if dropB t.q j &&& s = 0 then (0 : Int) else t.m - (i : Int)) + _
      omega
    · have hzs : ¬ dropB t.q j &&& s = 0 := fun e => hz (by
        rw [and_zero_iff] at e ⊢
        rintro x ⟨hx1, hx2⟩
        rw [testBit_dropB] at hx2
        simp at hx2
        exact e x ⟨hx1, hx2.1⟩)
      have hle : dropB s j ≤ s := by have := @Nat.and_le_right (dropB s j) s; rw [hd] at this; exact this
      have h1s : 1 ≤ dropB s j := by
        rcases Nat.eq_zero_or_pos (dropB s j) with e | e
        · rw [e] at hz; simp at hz
        · exact e
      have := h3 (dropB s j) h1s (by omega) hdb (by rw [Nat.and_comm]; exact hz)
      show _ ≤ (if dropB t.q j &&& s = 0 then (0 : Int) else t.m - (i : Int)) + _
      rw [if_neg hzs]
      omega
/-- What the search finds. -/
theorem own_cut (hr : posP rest) (h : FInv rest L t) (hj : j < L) (hq : t.q.testBit j = true) : ∃ n r : Nat, min t.m (t.v[j]?.getD 0) = (n : Int) ∧ n ≤ 8388608 ∧ nF t.v (dropB t.q j) t.m rest j (allS L) = (r : Int) ∧ r ≤ n ∧ (∀ i, i < r → ownB L t.v (dropB t.q j) t.m rest j (i + 1) = true) ∧ ∀ i, r ≤ i → i < n → ownB L t.v (dropB t.q j) t.m rest j (i + 1) = false := by
  have hlt : j < t.v.length := by rw [h.len]; exact hj
  have hvj := h.pos t.v[j] (List.getElem_mem _)
  have e1 : t.v[j]?.getD 0 = t.v[j] := by simp [hlt]
  have hm := h.m0
  have h0 := nF_nonneg hr h hj hq
  obtain ⟨⟨h1, h2, h3⟩, h4⟩ := nF_spec t.v (dropB t.q j) t.m rest j (allS L)
  refine ⟨(min t.m (t.v[j]?.getD 0)).toNat, (nF t.v (dropB t.q j) t.m rest j (allS L)).toNat, by omega, by omega, by omega, by omega, fun i hi => ?_, fun i hi hn => ?_⟩
  · exact (ownB_iff hr h hj hq (by omega)).2 (by omega)
  · cases e : ownB L t.v (dropB t.q j) t.m rest j (i + 1) with
    | false => rfl
    | true => have := (ownB_iff hr h hj hq (by omega)).1 e; omega
end

/-! ### All piles -/
def pileF (l : List Pl) (L : Nat) (v : List Int) (i : Nat) : FSt := fRun (l.drop (i + 1)) L ⟨v, (l[i]?.getD ⟨0, 0⟩).s, (l[i]?.getD ⟨0, 0⟩).m, List.replicate L 0⟩ L
def leftF (l : List Pl) (L : Nat) (v : List Int) : Nat → List Int
  | 0 => v
  | i + 1 => (pileF l L (leftF l L v i) i).v
def rowF (l : List Pl) (L : Nat) (v : List Int) (i : Nat) : List Int := (pileF l L (leftF l L v i) i).row
def rowsF (l : List Pl) (L : Nat) (v : List Int) (k : Nat) : List (List Int) := (List.range k).map (rowF l L v)
theorem rowsF_succ (l : List Pl) (L : Nat) (v : List Int) (k : Nat) : rowsF l L v (k + 1) = rowsF l L v k ++ [rowF l L v k] := by simp [rowsF, List.range_succ]
theorem posP_drop {l : List Pl} (h : posP l) (i : Nat) : posP (l.drop i) := fun p hp => h p (List.mem_of_mem_drop hp)

/-- The state before each pile. -/
structure LInv (l : List Pl) (L : Nat) (v : List Int) : Prop where
  len : v.length = L
  pos : ∀ x ∈ v, 0 ≤ x ∧ x ≤ 1000000000000
  H : ∀ s, sumS v s ≤ ofP l s
theorem LInv.start {l : List Pl} {L i : Nat} {v : List Int} (hl : okP L l) (hi : i < l.length) (h : LInv (l.drop i) L v) : FInv (l.drop (i + 1)) L ⟨v, (l[i]?.getD ⟨0, 0⟩).s, (l[i]?.getD ⟨0, 0⟩).m, List.replicate L 0⟩ := by
  have e : l[i]?.getD ⟨0, 0⟩ = l[i] := by simp [hi]
  have hp := hl.2 l[i] (List.getElem_mem _)
  rw [e]
  refine ⟨h.len, by simp, h.pos, ⟨hp.2.1, hp.2.2⟩, hp.1, fun x hx => by simp at hx; omega, fun s => ?_⟩
  have := h.H s
  rw [List.drop_eq_getElem_cons hi, ofP_cons] at this
  exact this
theorem FInv.next {l : List Pl} {L i : Nat} {t : FSt} (h : FInv (l.drop (i + 1)) L t) (hq : t.q = 0) : LInv (l.drop (i + 1)) L t.v :=
  ⟨h.len, h.pos, fun s => by have := h.H s; rw [hq] at this; simpa using this⟩
theorem fRun_q (rest : List Pl) (L : Nat) (t : FSt) : ∀ k, ∀ i, i < k → (fRun rest L t k).q.testBit i = false
  | 0, i, h => by omega
  | k + 1, i, h => by
    simp only [fRun, fStep]
    by_cases e : i = k
    · subst e
      split
      · exact dropB_bit _ _
      · rename_i hq; simpa using hq
    · have := fRun_q rest L t k i (by omega)
      split
      · show (dropB _ _).testBit i = false
        rw [testBit_dropB, this]; rfl
      · exact this
theorem fRun_end {rest : List Pl} {L : Nat} {t : FSt} (h : FInv rest L (fRun rest L t L)) : (fRun rest L t L).q = 0 := by
  apply Nat.eq_of_testBit_eq
  intro i
  rw [Nat.zero_testBit]
  by_cases hi : i < L
  · exact fRun_q rest L t L i hi
  · exact Nat.testBit_lt_two_pow (Nat.lt_of_lt_of_le h.q (Nat.pow_le_pow_right (by omega) (by omega)))
theorem pileF_inv {l : List Pl} {L i : Nat} {v : List Int} (hl : okP L l) (hi : i < l.length) (h : LInv (l.drop i) L v) : FInv (l.drop (i + 1)) L (pileF l L v i) ∧ LInv (l.drop (i + 1)) L (pileF l L v i).v := by
  have h1 := fRun_inv (posP_drop hl.pos (i + 1)) (LInv.start hl hi h) L (Nat.le_refl _)
  exact ⟨h1, h1.next (fRun_end h1)⟩
theorem leftF_inv {l : List Pl} {L : Nat} {v : List Int} (hl : okP L l) (h : LInv l L v) : ∀ i, i ≤ l.length → LInv (l.drop i) L (leftF l L v i)
  | 0, _ => by show LInv (l.drop 0) L v; rw [List.drop_zero]; exact h
  | i + 1, hi => (pileF_inv hl (by omega) (leftF_inv hl h i (by omega))).2

/-! ### How many of a pile are needed -/
theorem ofP_append (a b : List Pl) (s : Nat) : ofP (a ++ b) s = ofP a s + ofP b s := by simp [ofP]
theorem ofP_set {l : List Pl} {k : Nat} (hk : k < l.length) (p : Pl) (s : Nat) : ofP (l.set k p) s = ofP (l.take k ++ l.drop (k + 1)) s + if p.s &&& s = 0 then 0 else p.m := by
  rw [List.set_eq_take_append_cons_drop, if_pos hk, ofP_append, ofP_append, ofP_cons]
  omega
theorem set_self' {l : List Pl} {k : Nat} (hk : k < l.length) : l.set k l[k] = l := by
  apply List.ext_getElem?
  intro i
  rw [List.getElem?_set]
  by_cases e : k = i
  · subst e; simp [hk]
  · simp [e]
/-- As many as the other piles lack. -/
def needF (v : List Int) (l : List Pl) (k L : Nat) : Int := (lkF v (l.take k ++ l.drop (k + 1)) (allS L)).2
def spareB (v : List Int) (l : List Pl) (k L i : Nat) : Bool := decide ((lkF v (l.set k ⟨(l[k]?.getD ⟨0, 0⟩).s, (l[k]?.getD ⟨0, 0⟩).m - (i : Int)⟩) (allS L)).2 = 0)
theorem spare_iff {v : List Int} {l : List Pl} {k L : Nat} (hl : okP L l) (hk : k < l.length) (hv : (lkF v l (allS L)).2 = 0) :
    0 ≤ needF v l k L ∧ needF v l k L ≤ l[k].m ∧ ∀ i : Nat, (i : Int) ≤ l[k].m → (spareB v l k L i = true ↔ (i : Int) ≤ l[k].m - needF v l k L) := by
  have hp := hl.2 l[k] (List.getElem_mem _)
  have h0 : 0 ≤ needF v l k L := lkF_nonneg _ _ _
  have hat := lkF_at v (l.take k ++ l.drop (k + 1)) (allS L)
  have hge := lkF_ge v (l.take k ++ l.drop (k + 1)) (allS L)
  have hall := lkF_zero.1 hv
  have key : ∀ s, 1 ≤ s → s ≤ allS L → sumS v s ≤ ofP (l.take k ++ l.drop (k + 1)) s + if l[k].s &&& s = 0 then 0 else l[k].m := fun s a b => by
    rw [← ofP_set hk l[k] s, set_self' hk]; exact hall s a b
  have hle : needF v l k L ≤ l[k].m := by
    show (lkF v (l.take k ++ l.drop (k + 1)) (allS L)).2 ≤ _
    rcases hat with ⟨_, e⟩ | ⟨⟨a, b⟩, c, d, _⟩
    · rw [e]; exact hp.2.1
    · rw [d]
      have := key _ a b
      split at this <;> omega
  refine ⟨h0, hle, fun i hi => ?_⟩
  have e : l[k]?.getD ⟨0, 0⟩ = l[k] := by simp [hk]
  unfold spareB
  rw [e, decide_eq_true_eq, lkF_zero]
  constructor
  · intro h
    show (i : Int) ≤ l[k].m - (lkF v (l.take k ++ l.drop (k + 1)) (allS L)).2
    rcases hat with ⟨_, e⟩ | ⟨⟨a, b⟩, c, d, _⟩
    · rw [e]; omega
    · have h1 := h _ a b
      rw [ofP_set hk] at h1
      have h2 := key _ a b
      simp only [] at h1
      split at h1
      · omega
      · omega
  · intro h s a b
    rw [ofP_set hk]
    have h1 := hge s a b
    have h2 := key s a b
    show _ ≤ _ + if l[k].s &&& s = 0 then (0 : Int) else l[k].m - (i : Int)
    have h3 : (i : Int) ≤ l[k].m - (lkF v (l.take k ++ l.drop (k + 1)) (allS L)).2 := h
    split at h2
    · rename_i hz; rw [if_pos hz]; omega
    · rename_i hz; rw [if_neg hz]; omega
theorem spare_cut {v : List Int} {l : List Pl} {k L : Nat} (hl : okP L l) (hk : k < l.length) (hv : (lkF v l (allS L)).2 = 0) : ∃ n r : Nat, l[k].m = (n : Int) ∧ n ≤ 8388608 ∧ needF v l k L = l[k].m - (r : Int) ∧ r ≤ n ∧ (∀ i, i < r → spareB v l k L (i + 1) = true) ∧ ∀ i, r ≤ i → i < n → spareB v l k L (i + 1) = false := by
  have hp := hl.2 l[k] (List.getElem_mem _)
  obtain ⟨h0, h1, h2⟩ := spare_iff hl hk hv
  refine ⟨l[k].m.toNat, (l[k].m - needF v l k L).toNat, by omega, by omega, by omega, by omega, fun i hi => (h2 (i + 1) (by omega)).2 (by omega), fun i hi hn => ?_⟩
  cases e : spareB v l k L (i + 1) with
  | false => rfl
  | true => have := (h2 (i + 1) (by omega)).1 e; omega

/-! ### Answers -/
/-- How boxes are filled, and what is wrong. -/
def fillR (need : List Int) (l : List Pr) (b : Int) : List (List Int) × Int :=
  if checkR need l b = 0 then
    (if (lkF (timesV need b) (toPl l) (allS need.length)).2 = 0 then (rowsF (toPl l) need.length (timesV need b) (toPl l).length, 0) else ([], 10))
  else ([], checkR need l b)
def useR (need : List Int) (l : List Pr) (b k : Int) : Int × Int × Int :=
  if checkR need l b = 0 then
    (if 0 ≤ k ∧ k ≤ ((toPl l).length : Int) - 1 then
      (if (lkF (timesV need b) (toPl l) (allS need.length)).2 = 0 then (needF (timesV need b) (toPl l) k.toNat need.length, min ((toPl l)[k.toNat]?.getD ⟨0, 0⟩).m (sumS (timesV need b) ((toPl l)[k.toNat]?.getD ⟨0, 0⟩).s), 0)
      else (0, 0, 10))
    else (0, 0, 2))
  else (0, 0, checkR need l b)

theorem xor_pow {q j : Nat} (h : q.testBit j = true) : q ^^^ (q &&& 1 * 2 ^ j) = dropB q j := by
  rw [Nat.one_mul]
  apply Nat.eq_of_testBit_eq
  intro i
  rw [Nat.testBit_xor, Nat.testBit_and, Nat.testBit_two_pow, testBit_dropB]
  by_cases e : j = i
  · subst e; simp [h]
  · have e2 : ¬ i = j := fun x => e x.symm
    simp [e, e2]
theorem dropB_add {q j : Nat} (h : q.testBit j = true) : dropB q j + 2 ^ j = q := by
  have h1 := dropB_or h
  have hz : dropB q j &&& 2 ^ j = 0 := by
    rw [and_zero_iff]
    rintro i ⟨h2, h3⟩
    rw [Nat.testBit_two_pow] at h3
    rw [testBit_dropB] at h2
    simp at h2 h3
    exact h2.2 h3.symm
  have hlt : dropB q j + 2 ^ j < 2 ^ (dropB q j + 2 ^ j) := Nat.lt_two_pow_self
  have hA : dropB q j < 2 ^ (dropB q j + 2 ^ j) := Nat.lt_of_le_of_lt (Nat.le_add_right _ _) hlt
  have hB : 2 ^ j < 2 ^ (dropB q j + 2 ^ j) := Nat.lt_of_le_of_lt (Nat.le_add_left _ _) hlt
  have e := BitVec.add_eq_or_of_and_eq_zero (BitVec.ofNat (dropB q j + 2 ^ j) (dropB q j)) (BitVec.ofNat (dropB q j + 2 ^ j) (2 ^ j)) (by
    apply BitVec.eq_of_toNat_eq
    rw [BitVec.toNat_and, BitVec.toNat_ofNat, BitVec.toNat_ofNat, Nat.mod_eq_of_lt hA, Nat.mod_eq_of_lt hB, hz]
    simp)
  have e2 := congrArg BitVec.toNat e
  rw [BitVec.toNat_add, BitVec.toNat_or, BitVec.toNat_ofNat, BitVec.toNat_ofNat, Nat.mod_eq_of_lt hA, Nat.mod_eq_of_lt hB, Nat.mod_eq_of_lt hlt, h1] at e2
  exact e2

/-- Between two shades of a pile. -/
def midF (l : List Pl) (L : Nat) (v : List Int) (i k : Nat) : FSt := fRun (l.drop (i + 1)) L ⟨leftF l L v i, (l[i]?.getD ⟨0, 0⟩).s, (l[i]?.getD ⟨0, 0⟩).m, List.replicate L 0⟩ k
theorem midF_inv {l : List Pl} {L i : Nat} {v : List Int} (hl : okP L l) (h : LInv l L v) (hi : i < l.length) (k : Nat) (hk : k ≤ L) : FInv (l.drop (i + 1)) L (midF l L v i k) :=
  fRun_inv (posP_drop hl.pos _) (LInv.start hl hi (leftF_inv hl h i (by omega))) k hk
def numF (l : List Pl) (L : Nat) (v : List Int) (i k g : Nat) : Int := nF (midF l L v i k).v (dropB (midF l L v i k).q k) (midF l L v i k).m (l.drop (i + 1)) k g
theorem midF_yes {l : List Pl} {L i k : Nat} {v : List Int} (hq : (midF l L v i k).q.testBit k = true) : midF l L v i (k + 1) = ⟨lessV (midF l L v i k).v k (numF l L v i k (allS L)), dropB (midF l L v i k).q k, (midF l L v i k).m - numF l L v i k (allS L), (midF l L v i k).row.set k (numF l L v i k (allS L))⟩ := by
  show fStep _ _ _ (midF l L v i k) = _
  unfold fStep
  rw [if_pos hq]; rfl
theorem midF_no {l : List Pl} {L i k : Nat} {v : List Int} (hq : (midF l L v i k).q.testBit k = false) : midF l L v i (k + 1) = midF l L v i k := by
  show fStep _ _ _ (midF l L v i k) = _
  unfold fStep
  rw [if_neg (by rw [hq]; decide)]
theorem FInv.okV {rest : List Pl} {L : Nat} {t : FSt} (h : FInv rest L t) (h8 : L ≤ 8) : okV t.v := ⟨by rw [h.len]; exact h8, h.pos⟩
theorem LInv.ok {need : List Int} {l : List Pl} {b : Int} (hl : okP need.length l) (hn : okN need) (h8 : need.length ≤ 8) (b0 : 0 ≤ b) (b1 : b ≤ 10000000000) (h : (lkF (timesV need b) l (allS need.length)).2 = 0) : LInv l need.length (timesV need b) :=
  ⟨timesV_length _ _, (timesV_ok hn h8 b0 b1).2, by
    have := (hall_iff (v := timesV need b) hl.pos (fun p hp => by rw [timesV_length]; exact (hl.2 p hp).1)).1 (by rw [timesV_length]; exact h)
    exact this⟩
theorem nF_B {rest : List Pl} {L n : Nat} {t : FSt} {q j : Nat} (hr : okP n rest) (h : FInv rest L t) (h8 : L ≤ 8) (hj : j < L) : ∀ K, -8000000000000 ≤ nF t.v q t.m rest j K ∧ nF t.v q t.m rest j K ≤ 1048576
  | 0 => by
    have h1 := h.m0
    have hlt : j < t.v.length := by rw [h.len]; exact hj
    have h2 := h.pos t.v[j] (List.getElem_mem _)
    have e : t.v[j]?.getD 0 = t.v[j] := by simp [hlt]
    simp only [nF, e]
    omega
  | k + 1 => by
    have h1 := nF_B hr h h8 hj (q := q) k
    have h2 := sumS_B (h.okV h8) (k + 1)
    have h3 := ofP_BB hr (k + 1)
    have h4 := h.m0
    simp only [nF]
    split <;> omega
theorem okP_drop {n : Nat} {l : List Pl} (h : okP n l) (i : Nat) : okP n (l.drop i) := ⟨by have := h.1; simp; omega, fun p hp => h.2 p (List.mem_of_mem_drop hp)⟩
def rowC (L : Nat) (r : List Int) : List PV := [.is (r.flatMap i1) L]
def rowsV (L : Nat) (rs : List (List Int)) : PV := .is (rs.flatMap (rowC L)) rs.length
theorem repl_i1 (n : Nat) : (List.replicate n [PV.int .i64 0]).flatten = (List.replicate n (0 : Int)).flatMap i1 := by
  induction n with
  | zero => rfl
  | succ n ih => rw [List.replicate_succ, List.replicate_succ, List.flatten_cons, List.flatMap_cons, ih]; rfl
theorem flat_cut {α : Type} {f : α → List PV} {c : Nat} (hf : ∀ x, (f x).length = c) : ∀ (xs : List α) (n : Nat), (xs.flatMap f).drop (n * c) = (xs.drop n).flatMap f
  | xs, 0 => by simp
  | [], n + 1 => by simp
  | x :: xs, n + 1 => by
    rw [List.flatMap_cons, List.drop_succ_cons, ← flat_cut hf xs n, show (n + 1) * c = (f x).length + n * c by rw [hf, Nat.succ_mul, Nat.add_comm], List.drop_append]
    simp [hf]
theorem plDrop (l : List Pl) (n : Nat) : ((l.flatMap Pl.cells).drop (n * 2)).take ((l.length - n) * 2) = (l.drop n).flatMap Pl.cells := by
  rw [flat_cut (c := 2) (fun _ => rfl)]
  apply List.take_of_length_le
  rw [flat_len (c := 2) (fun _ => rfl), List.length_drop]
  exact Nat.le_refl _
theorem midF_0 {l : List Pl} {L i : Nat} {v : List Int} (hi : i < l.length) : midF l L v i 0 = ⟨leftF l L v i, l[i].s, l[i].m, List.replicate L 0⟩ := by
  simp [midF, fRun, hi]
theorem rowsF_length (l : List Pl) (L : Nat) (v : List Int) (k : Nat) : (rowsF l L v k).length = k := by simp [rowsF]
theorem numF_next {l : List Pl} {L i k g : Nat} {v : List Int} (h : (g + 1).testBit k = false ∧ ¬ (g + 1) &&& dropB (midF l L v i k).q k = 0) : numF l L v i k (g + 1) = min (numF l L v i k g) ((midF l L v i k).m + ofP (l.drop (i + 1)) (g + 1) - sumS (midF l L v i k).v (g + 1)) := by
  show nF _ _ _ _ _ (g + 1) = _
  rw [nF, if_pos h]; rfl
theorem numF_stay {l : List Pl} {L i k g : Nat} {v : List Int} (h : ¬ ((g + 1).testBit k = false ∧ ¬ (g + 1) &&& dropB (midF l L v i k).q k = 0)) : numF l L v i k (g + 1) = numF l L v i k g := by
  show nF _ _ _ _ _ (g + 1) = _
  rw [nF, if_neg h]; rfl
/-- The other piles. -/
def erP (l : List Pl) (k : Nat) : List Pl := l.take k ++ l.drop (k + 1)
theorem erP_len {l : List Pl} {k : Nat} (h : k < l.length) : 0 + (k - 0) + (l.length - (k + 1)) = (erP l k).length := by
  simp [erP]; omega
theorem okP_er {n : Nat} {l : List Pl} (h : okP n l) {k : Nat} (hk : k < l.length) : okP n (erP l k) := by
  refine ⟨by rw [← erP_len hk]; have := h.1; omega, fun p hp => ?_⟩
  rcases List.mem_append.1 hp with h1 | h1
  · exact h.2 p (List.mem_of_mem_take h1)
  · exact h.2 p (List.mem_of_mem_drop h1)
theorem plTake (l : List Pl) {k : Nat} (h : k ≤ l.length) : ((l.flatMap Pl.cells).drop (0 * 2)).take ((k - 0) * 2) = (l.take k).flatMap Pl.cells := by
  rw [Nat.zero_mul, List.drop_zero, Nat.sub_zero]
  have e : l.flatMap Pl.cells = (l.take k).flatMap Pl.cells ++ (l.drop k).flatMap Pl.cells := by rw [← List.flatMap_append, List.take_append_drop]
  have hl : ((l.take k).flatMap Pl.cells).length = k * 2 := by rw [flat_len (c := 2) (fun _ => rfl), List.length_take, Nat.min_eq_left h]
  rw [e, List.take_append_of_le_length (by omega), List.take_of_length_le (by omega)]
theorem plTake_len (l : List Pl) {k : Nat} (h : k ≤ l.length) : ((l.take k).flatMap Pl.cells).length = (k - 0) * 2 := by
  rw [flat_len (c := 2) (fun _ => rfl), List.length_take, Nat.min_eq_left h]; rfl
theorem plDrop_len (l : List Pl) (k : Nat) : ((l.drop k).flatMap Pl.cells).length = (l.length - k) * 2 := by
  rw [flat_len (c := 2) (fun _ => rfl), List.length_drop]
theorem onePl (l : List Pl) : (((l.flatMap Pl.cells).map V.p).all oneV) = true := by
  simp only [List.all_map, List.all_flatMap, List.all_eq_true]
  intro s _ x hx
  simp [Pl.cells] at hx
  rcases hx with rfl | rfl <;> rfl
theorem scPl (l : List Pl) : scL (l.flatMap Pl.cells) = true := by
  induction l with
  | nil => rfl
  | cons x r ih => exact ih

/-! ### The table of what is sold -/
def rowP (r : List Int) : List Int := r ++ List.replicate (8 - r.length) 0
def soldS (rs : List (List Int)) : List Int := rs.flatMap rowP ++ List.replicate (8 * (8 - rs.length)) 0
def soldM (rs : List (List Int)) (r : List Int) : List Int := rs.flatMap rowP ++ (rowP r ++ List.replicate (8 * (7 - rs.length)) 0)
theorem rowP_len {r : List Int} (h : r.length ≤ 8) : (rowP r).length = 8 := by simp [rowP]; omega
theorem rowsP_len {rs : List (List Int)} (h : ∀ r ∈ rs, r.length ≤ 8) : (rs.flatMap rowP).length = rs.length * 8 := by
  induction rs with
  | nil => rfl
  | cons r rs ih =>
    rw [List.flatMap_cons, List.length_append, rowP_len (h r (by simp)), ih (fun x hx => h x (by simp [hx])), List.length_cons]
    omega
theorem soldM_open {rs : List (List Int)} {L : Nat} (h : rs.length < 8) (hL : L ≤ 8) : soldM rs (List.replicate L 0) = soldS rs := by
  unfold soldM soldS rowP
  rw [List.length_replicate, List.replicate_append_replicate, List.replicate_append_replicate]
  congr 2
  omega
theorem soldM_close (rs : List (List Int)) (r : List Int) : soldM rs r = soldS (rs ++ [r]) := by
  unfold soldM soldS
  rw [List.flatMap_append, List.length_append, List.append_assoc]
  simp only [List.flatMap_cons, List.flatMap_nil, List.append_nil, List.length_cons, List.length_nil]
  congr 3
  omega
theorem soldM_len {rs : List (List Int)} {r : List Int} (h : ∀ x ∈ rs, x.length ≤ 8) (hr : r.length ≤ 8) (h8 : rs.length < 8) : (soldM rs r).length = 64 := by
  unfold soldM
  rw [List.length_append, List.length_append, rowsP_len h, rowP_len hr, List.length_replicate]
  omega
theorem soldM_set {rs : List (List Int)} {r : List Int} {k : Nat} {n : Int} (h : ∀ x ∈ rs, x.length ≤ 8) (hr : r.length ≤ 8) (hk : k < r.length) : (soldM rs r).set (rs.length * 8 + k) n = soldM rs (r.set k n) := by
  unfold soldM
  have e1 := rowsP_len h
  rw [List.set_append_right _ _ (by omega), show rs.length * 8 + k - (rs.flatMap rowP).length = k by omega, List.set_append_left _ _ (by rw [rowP_len hr]; omega)]
  congr 2
  unfold rowP
  rw [List.set_append_left _ _ hk, List.length_set]
theorem soldS_row {rs : List (List Int)} {L i : Nat} (h : ∀ x ∈ rs, x.length = L) (hL : L ≤ 8) (hi : i < rs.length) : ((soldS rs).drop (i * 8)).take L = rs[i] := by
  unfold soldS
  have h8 : ∀ x ∈ rs, x.length ≤ 8 := fun x hx => by rw [h x hx]; exact hL
  have e : rs = rs.take i ++ rs[i] :: rs.drop (i + 1) := by rw [List.getElem_cons_drop, List.take_append_drop]
  have e2 : rs.flatMap rowP = (rs.take i).flatMap rowP ++ (rowP rs[i] ++ (rs.drop (i + 1)).flatMap rowP) := by
    conv => lhs; rw [e]
    rw [List.flatMap_append, List.flatMap_cons]
  have e3 : ((rs.take i).flatMap rowP).length = i * 8 := by
    rw [rowsP_len (fun x hx => h8 x (List.mem_of_mem_take hx)), List.length_take, Nat.min_eq_left (by omega)]
  rw [e2, List.append_assoc, List.drop_append_of_le_length (by omega), List.drop_of_length_le (by omega), List.nil_append]
  unfold rowP
  rw [List.append_assoc, List.append_assoc, List.take_append_of_le_length (by rw [h _ (List.getElem_mem _)]; exact Nat.le_refl _), List.take_of_length_le (by rw [h _ (List.getElem_mem _)]; exact Nat.le_refl _)]
theorem flat_take {α : Type} {f : α → List PV} {c : Nat} (hf : ∀ x, (f x).length = c) : ∀ (xs : List α) (n : Nat), (xs.flatMap f).take (n * c) = (xs.take n).flatMap f
  | xs, 0 => by simp
  | [], n + 1 => by simp
  | x :: xs, n + 1 => by
    rw [List.flatMap_cons, List.take_succ_cons, List.flatMap_cons, ← flat_take hf xs n, show (n + 1) * c = (f x).length + n * c by rw [hf, Nat.succ_mul, Nat.add_comm], List.take_append]
    rw [List.take_of_length_le (by omega)]
    congr 1
    congr 1
    omega
theorem soldS_cut {rs : List (List Int)} {L i : Nat} (h : ∀ x ∈ rs, x.length = L) (hL : L ≤ 8) (hi : i < rs.length) : (((soldS rs).flatMap i1).drop (0 + i * 8 + 0 * 1)).take ((L - 0) * 1) = rs[i].flatMap i1 := by
  rw [show 0 + i * 8 + 0 * 1 = (i * 8) * 1 by omega, flat_cut (c := 1) (fun _ => rfl), flat_take (c := 1) (fun _ => rfl), Nat.sub_zero, soldS_row h hL hi]
theorem rowsF_mem {l : List Pl} {L : Nat} {v : List Int} (hl : okP L l) (h : LInv l L v) {n : Nat} (hn : n ≤ l.length) : ∀ r ∈ rowsF l L v n, r.length = L := by
  intro r hr
  simp only [rowsF, List.mem_map, List.mem_range] at hr
  obtain ⟨i, hi, rfl⟩ := hr
  exact (pileF_inv hl (by omega) (leftF_inv hl h i (by omega))).1.rlen
def oneC (x : PV) : List PV := [x]
def outsF (L : Nat) (rs : List (List Int)) (n g : Nat) : List PV := (rs.take g).flatMap (rowC L) ++ List.replicate (n - g) .nilSlice
theorem oneC_flat : ∀ xs : List PV, xs.flatMap oneC = xs
  | [] => rfl
  | x :: xs => by rw [List.flatMap_cons, oneC_flat xs]; rfl
theorem rowC_len (L : Nat) (rs : List (List Int)) : (rs.flatMap (rowC L)).length = rs.length := by
  rw [flat_len (c := 1) (fun _ => rfl), Nat.mul_one]
theorem outsF_set {L n g : Nat} {rs : List (List Int)} (hn : rs.length = n) (hg : g < n) : (outsF L rs n g).set g (.is ((rs[g]'(by omega)).flatMap i1) L) = outsF L rs n (g + 1) := by
  unfold outsF
  have e1 : ((rs.take g).flatMap (rowC L)).length = g := by rw [rowC_len, List.length_take, Nat.min_eq_left (by omega)]
  rw [List.set_append_right _ _ (by omega), show g - ((rs.take g).flatMap (rowC L)).length = 0 by omega, show n - g = (n - (g + 1)) + 1 by omega, List.replicate_succ, List.set_cons_zero, ← List.take_append_getElem (show g < rs.length by omega), List.flatMap_append, List.append_assoc]
  rfl
theorem outsF_len {L n g : Nat} {rs : List (List Int)} (hn : rs.length = n) (hg : g ≤ n) : (outsF L rs n g).length = n := by
  unfold outsF
  rw [List.length_append, rowC_len, List.length_take, List.length_replicate]; omega
theorem outsF_0 (L n : Nat) (rs : List (List Int)) : (List.replicate n [PV.nilSlice]).flatten = outsF L rs n 0 := by
  unfold outsF
  simp only [List.take_zero, List.flatMap_nil, List.nil_append, Nat.sub_zero]
  induction n with
  | zero => rfl
  | succ n ih => rw [List.replicate_succ, List.replicate_succ, List.flatten_cons, ih]; rfl
theorem outsF_all {L n : Nat} {rs : List (List Int)} (hn : rs.length = n) : outsF L rs n n = rs.flatMap (rowC L) := by
  unfold outsF
  rw [List.take_of_length_le (by omega), Nat.sub_self]; simp
end Go.Proofs.Ytpamkihpffoflaa
