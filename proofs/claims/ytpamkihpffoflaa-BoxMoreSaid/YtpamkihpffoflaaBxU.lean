/-
  How many pencils of a pile are sold, at least and at most. In plain Lean.
-/
import Derived.Test.YtpamkihpffoflaaBxH
set_option linter.unusedVariables false
set_option linter.unusedSimpArgs false
namespace Go.Proofs.Ytpamkihpffoflaa
open Go.AF

theorem isum_swap (f : Nat → Nat → Int) (n : Nat) : ∀ m, isum (fun s => isum (fun i => f i s) n) m = isum (fun i => isum (fun s => f i s) m) n
  | 0 => (isum_zero n fun _ _ => rfl).symm
  | m + 1 => by
    simp only [isum]
    rw [isum_swap f n m, ← isum_add]
theorem ofP_isum (l : List Pl) (t : Nat) : ofP l t = isum (fun i => if (l[i]?.getD ⟨0, 0⟩).s &&& t = 0 then 0 else (l[i]?.getD ⟨0, 0⟩).m) l.length := by
  have gen : ∀ k, k ≤ l.length → ofP (l.take k) t = isum (fun i => if (l[i]?.getD ⟨0, 0⟩).s &&& t = 0 then 0 else (l[i]?.getD ⟨0, 0⟩).m) k := by
    intro k
    induction k with
    | zero => intro _; rfl
    | succ k ih =>
      intro hk
      have h1 : k < l.length := by omega
      have e : l[k]?.getD ⟨0, 0⟩ = l[k] := by simp [h1]
      rw [ofP_take h1, ih (by omega)]
      simp only [isum, e]
  have := gen l.length (Nat.le_refl _)
  rwa [List.take_length] at this

section
variable {need : List Int} {l : List Pl} {b : Int} {rows : List (List Int)}
theorem Asg.rowsum (h : Asg need l b rows) (hl : okP need.length l) {i : Nat} (hi : i < l.length) : (rows[i]?.getD []).sum = isum (fun s => (rows[i]?.getD [])[s]?.getD 0) need.length := by
  obtain ⟨hi', _, _, hrl⟩ := h.row hl hi
  have e : rows[i]?.getD [] = rows[i] := by simp [hi']
  rw [e, ← take_sum_get, List.take_of_length_le (by omega)]
theorem Asg.part (h : Asg need l b rows) (hl : okP need.length l) {i : Nat} (hi : i < l.length) (t : Nat) : isum (fun s => if t.testBit s then (rows[i]?.getD [])[s]?.getD 0 else 0) need.length ≤ (if (l[i]?.getD ⟨0, 0⟩).s &&& t = 0 then 0 else (l[i]?.getD ⟨0, 0⟩).m) ∧
    isum (fun s => if t.testBit s then (rows[i]?.getD [])[s]?.getD 0 else 0) need.length ≤ (rows[i]?.getD []).sum := by
  have h2 : isum (fun s => if t.testBit s then (rows[i]?.getD [])[s]?.getD 0 else 0) need.length ≤ (rows[i]?.getD []).sum := by
    rw [h.rowsum hl hi]
    refine isum_mono _ fun s hs => ?_
    have := (h.pos i s hi hs).1
    split <;> omega
  refine ⟨?_, h2⟩
  split
  · rename_i hz
    rw [isum_zero _ fun s hs => ?_]
    · exact Int.le_refl _
    · obtain ⟨a, c⟩ := h.pos i s hi hs
      split
      · rename_i ht
        by_cases e : 0 < (rows[i]?.getD [])[s]?.getD 0
        · exact absurd ⟨c e, ht⟩ ((and_zero_iff _ _).1 hz s)
        · omega
      · rfl
  · have := h.cap i hi
    omega
theorem sumS_isum (need : List Int) (b : Int) (t : Nat) : b * sumS need t = isum (fun s => if t.testBit s then b * need[s]?.getD 0 else 0) need.length := by
  unfold sumS
  rw [← isum_mul]
  refine isum_congr _ fun s _ => ?_
  split
  · rfl
  · simp
theorem Asg.total (h : Asg need l b rows) (t : Nat) : b * sumS need t = isum (fun i => isum (fun s => if t.testBit s then (rows[i]?.getD [])[s]?.getD 0 else 0) need.length) l.length := by
  rw [sumS_isum, ← isum_swap (fun i s => if t.testBit s then (rows[i]?.getD [])[s]?.getD 0 else 0) l.length need.length]
  refine isum_congr _ fun s hs => ?_
  cases ht : t.testBit s with
  | true => simp only [if_true]; exact (h.col s hs).symm
  | false => simp only [Bool.false_eq_true, if_false]; rw [isum_zero _ fun _ _ => rfl]
theorem ofP_er {k : Nat} (hk : k < l.length) (t : Nat) : ofP l t = ofP (erP l k) t + if l[k].s &&& t = 0 then 0 else l[k].m := by
  have := ofP_set hk l[k] t
  rw [set_self' hk] at this
  exact this
/-- At least so many. -/
theorem asg_need (h : Asg need l b rows) (hl : okP need.length l) {k : Nat} (hk : k < l.length) : needF (timesV need b) l k need.length ≤ (rows[k]?.getD []).sum := by
  have h0 : 0 ≤ (rows[k]?.getD []).sum := by
    obtain ⟨hi', hx, _, _⟩ := h.row hl hk
    have e : rows[k]?.getD [] = rows[k] := by simp [hi']
    rw [e]
    have := psum (fun x hx' => (hx x hx').1) rows[k].length
    rw [List.take_length] at this
    exact this.1
  show (lkF (timesV need b) (erP l k) (allS need.length)).2 ≤ _
  rcases lkF_at (timesV need b) (erP l k) (allS need.length) with ⟨_, e⟩ | ⟨_, _, e, _⟩
  · rw [e]; exact h0
  · rw [e, sumS_times, h.total]
    generalize (lkF (timesV need b) (erP l k) (allS need.length)).1 = t
    have h1 := ofP_er hk t
    rw [ofP_isum l t] at h1
    have e2 : l[k]?.getD ⟨0, 0⟩ = l[k] := by simp [hk]
    have h2 := isum_turn (f := fun i => if (l[i]?.getD ⟨0, 0⟩).s &&& t = 0 then 0 else (l[i]?.getD ⟨0, 0⟩).m) (g := fun i => if i = k then (rows[k]?.getD []).sum else if (l[i]?.getD ⟨0, 0⟩).s &&& t = 0 then 0 else (l[i]?.getD ⟨0, 0⟩).m) l.length hk (fun j _ hj => if_neg hj)
    have h3 := isum_mono (f := fun i => isum (fun s => if t.testBit s then (rows[i]?.getD [])[s]?.getD 0 else 0) need.length) (g := fun i => if i = k then (rows[k]?.getD []).sum else if (l[i]?.getD ⟨0, 0⟩).s &&& t = 0 then 0 else (l[i]?.getD ⟨0, 0⟩).m) l.length (fun j hj => by
      obtain ⟨a, c⟩ := h.part hl hj t
      by_cases e : j = k
      · subst e; simp only [if_true]; exact c
      · simp only [if_neg e]; exact a)
    simp only [e2, if_true] at h2
    omega
/-- At most so many. -/
theorem asg_top (h : Asg need l b rows) (hl : okP need.length l) {k : Nat} (hk : k < l.length) : (rows[k]?.getD []).sum ≤ sumS (timesV need b) (l[k]?.getD ⟨0, 0⟩).s := by
  rw [h.rowsum hl hk, sumS_times, sumS_isum]
  refine isum_mono _ fun s hs => ?_
  obtain ⟨a, c⟩ := h.pos k s hk hs
  split
  · rw [← h.col s hs]
    exact isum_one (f := fun i => (rows[i]?.getD [])[s]?.getD 0) (fun j hj => (h.pos j s hj hs).1) hk
  · rename_i hb
    by_cases e : 0 < (rows[k]?.getD [])[s]?.getD 0
    · exact absurd (c e) hb
    · omega
end

/-- With just as many as are needed, and with one less. -/
theorem few_can {need : List Int} {l : List Pl} {b : Int} {k : Nat} (hl : okP need.length l) (hk : k < l.length) (hc : canB need l b = true) :
    0 ≤ needF (timesV need b) l k need.length ∧ needF (timesV need b) l k need.length ≤ l[k].m ∧ canB need (l.set k ⟨l[k].s, needF (timesV need b) l k need.length⟩) b = true ∧ (0 < needF (timesV need b) l k need.length → canB need (l.set k ⟨l[k].s, needF (timesV need b) l k need.length - 1⟩) b = false) := by
  obtain ⟨h0, h1, h2⟩ := spare_iff hl hk (of_decide_eq_true hc)
  have e : l[k]?.getD ⟨0, 0⟩ = l[k] := by simp [hk]
  refine ⟨h0, h1, ?_, fun hp => ?_⟩
  · have h3 := (h2 (l[k].m - needF (timesV need b) l k need.length).toNat (by omega)).2 (by omega)
    unfold spareB at h3
    rw [e, show l[k].m - (((l[k].m - needF (timesV need b) l k need.length).toNat : Nat) : Int) = needF (timesV need b) l k need.length by omega] at h3
    exact h3
  · cases h4 : canB need (l.set k ⟨l[k].s, needF (timesV need b) l k need.length - 1⟩) b with
    | false => rfl
    | true =>
      have h3 := (h2 (l[k].m - needF (timesV need b) l k need.length + 1).toNat (by omega)).1 (by
        unfold spareB
        rw [e, show l[k].m - (((l[k].m - needF (timesV need b) l k need.length + 1).toNat : Nat) : Int) = needF (timesV need b) l k need.length - 1 by omega]
        exact h4)
      omega

/-! ### The first pile is sold as far as can be -/
section
variable {l : List Pl} {L i : Nat} {v : List Int}
theorem midF_m_step (hl : okP L l) (h : LInv l L v) (hi : i < l.length) {k : Nat} (hk : k < L) : (midF l L v i (k + 1)).m ≤ (midF l L v i k).m ∧ ∀ t, sumS (midF l L v i k).v t - (midF l L v i k).m ≤ sumS (midF l L v i (k + 1)).v t - (midF l L v i (k + 1)).m := by
  have hF := midF_inv hl h hi k (by omega)
  cases hq : (midF l L v i k).q.testBit k with
  | false => rw [midF_no hq]; exact ⟨Int.le_refl _, fun _ => Int.le_refl _⟩
  | true =>
    have hn := nF_nonneg (posP_drop hl.pos (i + 1)) hF hk hq
    rw [midF_yes hq]
    have hkv : k < (midF l L v i k).v.length := by rw [hF.len]; exact hk
    have hn' : 0 ≤ numF l L v i k (allS L) := hn
    refine ⟨by show _ - numF l L v i k (allS L) ≤ _; omega, fun t => ?_⟩
    show _ ≤ sumS (lessV (midF l L v i k).v k (numF l L v i k (allS L))) t - ((midF l L v i k).m - numF l L v i k (allS L))
    rw [sumS_less hkv]
    split <;> omega
theorem midF_m (hl : okP L l) (h : LInv l L v) (hi : i < l.length) (k : Nat) : ∀ d, k + d ≤ L → (midF l L v i (k + d)).m ≤ (midF l L v i k).m ∧ ∀ t, sumS (midF l L v i k).v t - (midF l L v i k).m ≤ sumS (midF l L v i (k + d)).v t - (midF l L v i (k + d)).m
  | 0, _ => ⟨Int.le_refl _, fun _ => Int.le_refl _⟩
  | d + 1, hd => by
    obtain ⟨a, c⟩ := midF_m hl h hi k d (by omega)
    obtain ⟨a', c'⟩ := midF_m_step hl h hi (k := k + d) (by omega)
    exact ⟨Int.le_trans a' a, fun t => Int.le_trans (c t) (c' t)⟩
theorem pile_full (hl : okP L l) (h : LInv l L v) (hi : i < l.length) : (midF l L v i L).m = 0 ∨ ∀ s, s < L → l[i].s.testBit s = true → (midF l L v i L).v[s]?.getD 0 = 0 := by
  have hE := midF_inv hl h hi L (Nat.le_refl _)
  by_cases hm : (midF l L v i L).m = 0
  · exact .inl hm
  · right
    intro s hs hb
    have hEm := hE.m0
    refine Classical.byContradiction fun hne => ?_
    have hq : (midF l L v i s).q.testBit s = true := by rw [midF_q hi, hb]; simp
    have hF := midF_inv hl h hi s (by omega)
    have hkv : s < (midF l L v i s).v.length := by rw [hF.len]; exact hs
    obtain ⟨_, h4⟩ := nF_spec (midF l L v i s).v (dropB (midF l L v i s).q s) (midF l L v i s).m (l.drop (i + 1)) s (allS L)
    obtain ⟨hm1, hm2⟩ := midF_m hl h hi (s + 1) (L - (s + 1)) (by omega)
    rw [show s + 1 + (L - (s + 1)) = L by omega] at hm1 hm2
    -- shade s is not sold any more behind its own turn
    have hsold : (midF l L v i L).v[s]?.getD 0 = (midF l L v i (s + 1)).v[s]?.getD 0 := by
      have a := (midF_rows hl h hi L (Nat.le_refl _)).sold s
      have c := (midF_rows hl h hi (s + 1) (by omega)).sold s
      have e := midF_row_stay (l := l) (L := L) (v := v) (i := i) (s + 1) s (by omega) (L - (s + 1))
      rw [show s + 1 + (L - (s + 1)) = L by omega] at e
      omega
    have e1 : (midF l L v i (s + 1)).m = (midF l L v i s).m - nF (midF l L v i s).v (dropB (midF l L v i s).q s) (midF l L v i s).m (l.drop (i + 1)) s (allS L) := by rw [midF_yes hq]; rfl
    have e2 : (midF l L v i (s + 1)).v[s]?.getD 0 = (midF l L v i s).v[s]?.getD 0 - nF (midF l L v i s).v (dropB (midF l L v i s).q s) (midF l L v i s).m (l.drop (i + 1)) s (allS L) := by
      rw [midF_yes hq]
      show (lessV _ _ _)[s]?.getD 0 = _
      rw [lessV_get, if_pos ⟨rfl, hkv⟩]; rfl
    rcases h4 with e | e | ⟨t, h5, h6, h7, h8, h9⟩
    · omega
    · omega
    · have e3 : sumS (midF l L v i (s + 1)).v t = sumS (midF l L v i s).v t := by
        rw [midF_yes hq]
        show sumS (lessV _ _ _) t = _
        rw [sumS_less hkv, h7]; simp
      have h10 := hE.H t
      have hqz : (midF l L v i L).q = 0 := fRun_end hE
      rw [hqz] at h10
      simp only [Nat.zero_and, if_true] at h10
      have h11 := hm2 t
      omega
theorem first_sum {need : List Int} {l : List Pl} {b : Int} (hl : okP need.length l) (h : LInv l need.length (timesV need b)) (hi : 0 < l.length) : ((rowsF l need.length (timesV need b) l.length)[0]?.getD []).sum = min l[0].m (sumS (timesV need b) l[0].s) := by
  have hA := fill_asg hl h
  have e : l[0]?.getD ⟨0, 0⟩ = l[0] := by simp [hi]
  have htop := asg_top hA hl hi
  have hcap := hA.cap 0 hi
  rw [e] at htop hcap
  have hrow := rowsF_get (l := l) (L := need.length) (v := timesV need b) l.length hi
  have hR := midF_rows hl h hi need.length (Nat.le_refl _)
  have hs1 : (rowF l need.length (timesV need b) 0).sum + (midF l need.length (timesV need b) 0 need.length).m = l[0].m := by
    have := hR.sum; rw [e] at this; exact this
  rcases pile_full hl h hi with h1 | h1
  · rw [hrow] at htop ⊢
    omega
  · have h2 : sumS (timesV need b) l[0].s ≤ ((rowsF l need.length (timesV need b) l.length)[0]?.getD []).sum := by
      rw [hA.rowsum hl hi, sumS_times, sumS_isum]
      refine isum_mono _ fun s hs => ?_
      split
      · rename_i hb
        rw [hrow]
        have h3 := hR.sold s
        have h4 := h1 s hs hb
        have h5 : (leftF l need.length (timesV need b) 0)[s]?.getD 0 = b * need[s]?.getD 0 := timesV_get1 need b s
        have h6 : (rowF l need.length (timesV need b) 0)[s]?.getD 0 = (midF l need.length (timesV need b) 0 need.length).row[s]?.getD 0 := rfl
        omega
      · exact (hA.pos 0 s hi hs).1
    omega
end

/-! ### Lists of piles -/
theorem toPl_set (l : List Pr) (k : Nat) (p : Pr) : toPl (l.set k p) = (toPl l).set k ⟨p.s.toNat, p.m⟩ := by simp [toPl, List.map_set]
theorem toPl_get {need : List Int} {l : List Pr} (h : Vld need l) {k : Nat} (hk : k < l.length) : (toPl l)[k]'(by rw [toPl_len]; exact hk) = ⟨l[k].s.toNat, l[k].m⟩ ∧ (((toPl l)[k]'(by rw [toPl_len]; exact hk)).s : Int) = l[k].s := by
  have := (h.2.2.2.1 l[k] (List.getElem_mem _)).1
  simp [toPl]
  omega
theorem vld_set {need : List Int} {l : List Pr} {k : Nat} {n : Int} (h : Vld need l) (hk : k < l.length) (h0 : 0 ≤ n) (h1 : n ≤ l[k].m) : Vld need (l.set k ⟨l[k].s, n⟩) := by
  refine ⟨h.1, by rw [List.length_set]; exact h.2.1, h.2.2.1, fun q hq => ?_, h.2.2.2.2⟩
  rcases List.mem_or_eq_of_mem_set hq with hq | rfl
  · exact h.2.2.2.1 q hq
  · have := h.2.2.2.1 l[k] (List.getElem_mem _)
    exact ⟨this.1, h0, by have := this.2.2; show n ≤ 1048576; omega⟩
/-- A pile in front of the others. -/
def frontP (l : List Pr) (k : Nat) : List Pr := (l[k]?.getD ⟨0, 0⟩) :: (l.take k ++ l.drop (k + 1))
theorem frontP_len {l : List Pr} {k : Nat} (hk : k < l.length) : (frontP l k).length = l.length := by simp [frontP]; omega
theorem vld_front {need : List Int} {l : List Pr} {k : Nat} (h : Vld need l) (hk : k < l.length) : Vld need (frontP l k) := by
  refine ⟨h.1, by rw [frontP_len hk]; exact h.2.1, h.2.2.1, fun q hq => ?_, h.2.2.2.2⟩
  unfold frontP at hq
  rcases List.mem_cons.1 hq with rfl | hq
  · have e : l[k]?.getD ⟨0, 0⟩ = l[k] := by simp [hk]
    rw [e]; exact h.2.2.2.1 _ (List.getElem_mem _)
  · rcases List.mem_append.1 hq with hq | hq
    · exact h.2.2.2.1 q (List.mem_of_mem_take hq)
    · exact h.2.2.2.1 q (List.mem_of_mem_drop hq)
theorem toPl_front {l : List Pr} {k : Nat} (hk : k < l.length) : toPl (frontP l k) = (toPl l)[k]'(by rw [toPl_len]; exact hk) :: erP (toPl l) k := by
  simp [frontP, toPl, erP, hk]
theorem front_can {need : List Int} {l : List Pr} {b : Int} {k : Nat} (hk : k < l.length) : canB need (toPl (frontP l k)) b = canB need (toPl l) b := by
  have hk' : k < (toPl l).length := by rw [toPl_len]; exact hk
  have e : ∀ t, ofP (toPl (frontP l k)) t = ofP (toPl l) t := fun t => by
    rw [toPl_front hk, ofP_cons, ofP_er hk' t]; omega
  cases h : canB need (toPl l) b with
  | true =>
    rw [canB_iff] at h ⊢
    intro t a c
    rw [e]; exact h t a c
  | false =>
    cases h2 : canB need (toPl (frontP l k)) b with
    | false => rfl
    | true =>
      have : canB need (toPl l) b = true := by
        rw [canB_iff] at h2 ⊢
        intro t a c
        rw [← e]; exact h2 t a c
      rw [h] at this; cases this
theorem use_fine {need : List Int} {l : List Pr} {b k : Int} (h : uE need l b k = 0) : Vld need l ∧ (0 ≤ b ∧ b ≤ 1048576) ∧ (0 ≤ k ∧ k ≤ (l.length : Int) - 1) ∧ canB need (toPl l) b = true ∧ uL need l b k = needF (timesV need b) (toPl l) k.toNat need.length ∧ uH need l b k = min ((toPl l)[k.toNat]?.getD ⟨0, 0⟩).m (sumS (timesV need b) ((toPl l)[k.toNat]?.getD ⟨0, 0⟩).s) := by
  unfold uE uL uH useR at *
  split at h
  · rename_i hc
    obtain ⟨hV, hb⟩ := checkR_zero hc
    rw [if_pos hc]
    split at h
    · rename_i hk
      rw [if_pos hk]
      split at h
      · rename_i hz
        rw [if_pos hz]
        exact ⟨hV, hb, by rw [toPl_len] at hk; exact hk, decide_eq_true hz, rfl, rfl⟩
      · cases h
    · cases h
  · rename_i hc; exact absurd h hc
theorem use_err {need : List Int} {l : List Pr} {b k : Int} (h : uE need l b k ≠ 0) : uL need l b k = 0 ∧ uH need l b k = 0 ∧ (uE need l b k = 1 ↔ ¬ Vld need l) := by
  unfold uE uL uH useR at *
  split at h
  · rename_i hc
    obtain ⟨hV, hb⟩ := checkR_zero hc
    rw [if_pos hc]
    split at h
    · rename_i hk
      rw [if_pos hk]
      split at h
      · exact absurd rfl h
      · rename_i hz
        rw [if_neg hz]
        exact ⟨rfl, rfl, by simp [hV]⟩
    · rename_i hk
      rw [if_neg hk]
      exact ⟨rfl, rfl, by simp [hV]⟩
  · rename_i hc
    rw [if_neg hc]
    refine ⟨rfl, rfl, ?_⟩
    show checkR need l b = 1 ↔ _
    unfold checkR
    split
    · rename_i hV
      split
      · simp [hV]
      · simp [hV]
    · rename_i hV; simp [hV]
end Go.Proofs.Ytpamkihpffoflaa
