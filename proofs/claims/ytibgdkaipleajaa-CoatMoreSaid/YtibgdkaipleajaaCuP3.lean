/-
  Chapter 7: an order of all coats by remainders; its dips; one of them an hour earlier. No program in sight.
-/
import Derived.Test.YtibgdkaipleajaaCuP2
section
set_option linter.unusedVariables false
set_option linter.unusedSimpArgs false
namespace Go.Proofs.Ytibgdkaipleajaa
open Go.AF
def u1 (n : Nat) : List PV := [.int .u8 (n : Int)]
def bysV (l : List Nat) : PV := .is (l.flatMap u1) l.length
def nn (l : List Nat) (i : Nat) : Nat := l.getD i 0
theorem nn_get {l : List Nat} : ∀ k (h : k < l.length), l[k] = nn l k := fun k h => by
  unfold nn
  rw [List.getD_eq_getElem?_getD, List.getElem?_eq_getElem h]; rfl
theorem nn_mem {l : List Nat} {k : Nat} (h : k < l.length) : nn l k ∈ l := by rw [← nn_get k h]; exact List.getElem_mem _
/-- May one more coat of a batch be laid? -/
def oFree (p : Pnt) (o : List Int) (at_ : Nat) : Bool := decide (countI o (at_ : Int) o.length < (cot p.bs at_).dry.length)
def oAt (p : Pnt) (by_ : List Nat) (i k : Nat) : Nat := (nn by_ (i % by_.length) % p.bs.length + k) % p.bs.length
def ordN (p : Pnt) (by_ : List Nat) : Nat → List Int
  | 0 => []
  | i + 1 => match (List.range p.bs.length).find? fun k => oFree p (ordN p by_ i) (oAt p by_ i k) with
    | some k => ordN p by_ i ++ [((oAt p by_ i k : Nat) : Int)]
    | none => ordN p by_ i
theorem ordN_T {p : Pnt} {by_ : List Nat} {i k : Nat} (hk : k < p.bs.length) (h : ∀ j, j < k → oFree p (ordN p by_ i) (oAt p by_ i j) = false) (ht : oFree p (ordN p by_ i) (oAt p by_ i k) = true) : ordN p by_ (i + 1) = ordN p by_ i ++ [((oAt p by_ i k : Nat) : Int)] := by
  have : (List.range p.bs.length).find? (fun k => oFree p (ordN p by_ i) (oAt p by_ i k)) = some k := by
    rw [List.find?_range_eq_some]
    exact ⟨ht, by simpa using hk, fun j hj => by simp [h j hj]⟩
  rw [ordN, this]
theorem ordN_F {p : Pnt} {by_ : List Nat} {i : Nat} (h : ∀ j, j < p.bs.length → oFree p (ordN p by_ i) (oAt p by_ i j) = false) : ordN p by_ (i + 1) = ordN p by_ i := by
  have : (List.range p.bs.length).find? (fun k => oFree p (ordN p by_ i) (oAt p by_ i k)) = none := by
    rw [List.find?_eq_none]
    intro j hj
    simp [h j (List.mem_range.1 hj)]
  rw [ordN, this]
/-- Each batch is there, and has a coat left where it is laid. -/
def OrdV (p : Pnt) (o : List Int) : Prop := ∀ j, j < o.length → ∃ k : Nat, nt o j = (k : Int) ∧ k < p.bs.length ∧ countI o (k : Int) j < (cot p.bs k).dry.length
theorem countI_app (l m : List Int) (n : Int) : ∀ k, k ≤ l.length → countI (l ++ m) n k = countI l n k
  | 0, _ => rfl
  | k + 1, h => by
    have ih := countI_app l m n k (by omega)
    unfold countI
    rw [ih, nt_app (by omega)]
theorem countI_snoc (l : List Int) (x n : Int) : countI (l ++ [x]) n (l ++ [x]).length = if x = n then countI l n l.length + 1 else countI l n l.length := by
  rw [List.length_append]
  show (if nt (l ++ [x]) l.length = n then countI (l ++ [x]) n l.length + 1 else countI (l ++ [x]) n l.length) = _
  rw [nt_end l [] x, countI_app l [x] n l.length (Nat.le_refl _)]
theorem ordV_snoc {p : Pnt} {o : List Int} (h : OrdV p o) {k : Nat} (hk : k < p.bs.length) (hf : oFree p o k = true) : OrdV p (o ++ [(k : Int)]) := by
  intro j hj
  rw [List.length_append] at hj
  have hj2 : j < o.length + 1 := hj
  rcases Nat.lt_succ_iff_lt_or_eq.1 hj2 with h1 | rfl
  · obtain ⟨q, h2, h3, h4⟩ := h j h1
    exact ⟨q, by rw [nt_app h1]; exact h2, h3, by rw [countI_app _ _ _ _ (by omega)]; exact h4⟩
  · exact ⟨k, nt_end o [] _, hk, by rw [countI_app _ _ _ _ (Nat.le_refl _)]; exact of_decide_eq_true hf⟩
theorem oAt_lt {p : Pnt} (h : 0 < p.bs.length) (by_ : List Nat) (i k : Nat) : oAt p by_ i k < p.bs.length := Nat.mod_lt _ h
theorem ordN_step {p : Pnt} (h0 : 0 < p.bs.length) (by_ : List Nat) (i : Nat) : (∃ k, k < p.bs.length ∧ oFree p (ordN p by_ i) k = true ∧ ordN p by_ (i + 1) = ordN p by_ i ++ [(k : Int)]) ∨ ((∀ k, k < p.bs.length → oFree p (ordN p by_ i) k = false) ∧ ordN p by_ (i + 1) = ordN p by_ i) := by
  cases hf : (List.range p.bs.length).find? fun k => oFree p (ordN p by_ i) (oAt p by_ i k) with
  | some k =>
    have h := hf
    rw [List.find?_range_eq_some] at h
    obtain ⟨h1, h2, h3⟩ := h
    refine .inl ⟨oAt p by_ i k, oAt_lt h0 _ _ _, h1, ?_⟩
    rw [ordN, hf]
  | none =>
    have h := hf
    rw [List.find?_eq_none] at h
    refine .inr ⟨fun k hk => ?_, by rw [ordN, hf]⟩
    have hb : ∃ b, b = nn by_ (i % by_.length) % p.bs.length := ⟨_, rfl⟩
    obtain ⟨b, hb⟩ := hb
    have hbl : b < p.bs.length := by rw [hb]; exact Nat.mod_lt _ h0
    have e : ∃ j, j < p.bs.length ∧ oAt p by_ i j = k := by
      unfold oAt
      rw [← hb]
      by_cases hbk : b ≤ k
      · exact ⟨k - b, by omega, by rw [show b + (k - b) = k by omega]; exact Nat.mod_eq_of_lt hk⟩
      · exact ⟨p.bs.length + k - b, by omega, by rw [show b + (p.bs.length + k - b) = k + p.bs.length by omega, Nat.add_mod_right]; exact Nat.mod_eq_of_lt hk⟩
    obtain ⟨j, hj, rfl⟩ := e
    have h2 := h j (List.mem_range.2 hj)
    simpa using h2
theorem ordN_V {p : Pnt} (h0 : 0 < p.bs.length) (by_ : List Nat) : ∀ i, OrdV p (ordN p by_ i)
  | 0 => fun j hj => by cases hj
  | i + 1 => by
    have ih := ordN_V h0 by_ i
    rcases ordN_step h0 by_ i with ⟨k, h1, h2, h3⟩ | ⟨_, h3⟩
    · rw [h3]; exact ordV_snoc ih h1 h2
    · rw [h3]; exact ih
/-- How many coats of the first batches are laid. -/
def laidC (o : List Int) : Nat → Nat
  | 0 => 0
  | k + 1 => laidC o k + countI o (k : Int) o.length
theorem laid_snoc (o : List Int) (b : Nat) : ∀ k, laidC (o ++ [(b : Int)]) k = if b < k then laidC o k + 1 else laidC o k
  | 0 => by rw [if_neg (by omega)]; rfl
  | k + 1 => by
    have ih := laid_snoc o b k
    unfold laidC
    rw [ih, countI_snoc]
    by_cases h1 : b < k
    · rw [if_pos h1, if_neg (by omega), if_pos (by omega)]; omega
    · rw [if_neg h1]
      by_cases h2 : b = k
      · subst h2
        rw [if_pos rfl, if_pos (by omega)]; omega
      · rw [if_neg (by omega), if_neg (by omega)]
theorem laid_nil : ∀ n, laidC [] n = 0
  | 0 => rfl
  | n + 1 => by
    have ih := laid_nil n
    unfold laidC
    rw [ih]; rfl
theorem laid_len' {p : Pnt} : ∀ (m : Nat) (o : List Int), o.length = m → OrdV p o → laidC o p.bs.length = o.length
  | 0, o, hm, _ => by
    rw [List.eq_nil_of_length_eq_zero hm, laid_nil]; rfl
  | m + 1, o, hm, h => by
    have hne : o ≠ [] := fun e => by rw [e] at hm; cases hm
    obtain ⟨a, x, rfl⟩ : ∃ a x, o = a ++ [x] := ⟨o.dropLast, o.getLast hne, (List.dropLast_concat_getLast hne).symm⟩
    have h2 : OrdV p a := fun j hj => by
      obtain ⟨q, a1, b1, c1⟩ := h j (by rw [List.length_append]; omega)
      exact ⟨q, by rwa [nt_app hj] at a1, b1, by rwa [countI_app _ _ _ _ (by omega)] at c1⟩
    have hl : a.length = m := by rw [List.length_append] at hm; exact Nat.succ.inj hm
    obtain ⟨k, a1, b1, c1⟩ := h a.length (by simp)
    rw [nt_end a [] x] at a1
    subst a1
    rw [laid_snoc, if_pos b1, laid_len' m a hl h2, List.length_append]; rfl
theorem laid_len {p : Pnt} (o : List Int) (h : OrdV p o) : laidC o p.bs.length = o.length := laid_len' _ o rfl h
theorem laid_le {p : Pnt} {o : List Int} (h : ∀ k : Nat, countI o (k : Int) o.length ≤ (cot p.bs k).dry.length) : ∀ k, laidC o k ≤ sumD p.bs k
  | 0 => Nat.le_refl _
  | k + 1 => by
    have ih := laid_le h k
    have h1 := h k
    unfold laidC sumD
    omega
theorem laid_eq {p : Pnt} {o : List Int} : ∀ k : Nat, (∀ j : Nat, j < k → countI o (j : Int) o.length = (cot p.bs j).dry.length) → laidC o k = sumD p.bs k
  | 0, _ => rfl
  | k + 1, h => by
    have ih := laid_eq (o := o) (p := p) k fun j hj => h j (by omega)
    unfold laidC sumD
    rw [ih, h k (by omega)]
theorem countI_mono (l : List Int) (n : Int) : ∀ {i j : Nat}, i ≤ j → countI l n i ≤ countI l n j := by
  intro i j h
  induction j with
  | zero => rw [show i = 0 by omega]; exact Nat.le_refl _
  | succ j ih =>
    rcases Nat.lt_or_ge i (j + 1) with h1 | h1
    · have h2 := ih (by omega)
      have h3 : countI l n j ≤ countI l n (j + 1) := by
        show _ ≤ (if nt l j = n then countI l n j + 1 else countI l n j)
        split <;> omega
      omega
    · rw [show i = j + 1 by omega]; exact Nat.le_refl _
theorem count_le {p : Pnt} {o : List Int} (h : OrdV p o) (k : Nat) : ∀ i, i ≤ o.length → countI o (k : Int) i ≤ (cot p.bs k).dry.length
  | 0, _ => Nat.zero_le _
  | i + 1, hi => by
    have ih := count_le h k i (by omega)
    obtain ⟨q, a, b, c⟩ := h i (by omega)
    unfold countI
    split
    · rename_i e
      have : q = k := by omega
      subst this
      omega
    · exact ih
theorem ordN_len {p : Pnt} (h0 : 0 < p.bs.length) (by_ : List Nat) : ∀ i, (ordN p by_ i).length = min i (coats p)
  | 0 => by rw [Nat.zero_min]; rfl
  | i + 1 => by
    have ih := ordN_len h0 by_ i
    have hV := ordN_V h0 by_ i
    have hl := laid_len _ hV
    have hc := fun k => count_le hV k _ (Nat.le_refl _)
    have hle := laid_le hc p.bs.length
    have hco : coats p = sumD p.bs p.bs.length := rfl
    rcases ordN_step h0 by_ i with ⟨k, h1, h2, h3⟩ | ⟨h1, h3⟩
    · have hV2 := ordN_V h0 by_ (i + 1)
      have hl2 := laid_len _ hV2
      have hle2 := laid_le (fun k => count_le hV2 k _ (Nat.le_refl _)) p.bs.length
      rw [h3] at hl2 hle2 ⊢
      rw [List.length_append] at hl2 ⊢
      have : ([(k : Int)] : List Int).length = 1 := rfl
      omega
    · have he := laid_eq (p := p) (o := ordN p by_ i) p.bs.length fun j hj => by
        have h4 := of_decide_eq_false (h1 j hj)
        have h5 := hc j
        omega
      rw [h3]
      omega
theorem ordN_all {p : Pnt} (hp : Ok p) (by_ : List Nat) : (ordN p by_ 9).length = coats p := by
  rw [ordN_len (by have := hp.n; omega)]
  have := hp.all
  omega
def hadR (p : Pnt) (o : List Int) : List Int := (List.range p.bs.length).map fun (k : Nat) => ((countI o (k : Int) o.length : Nat) : Int)
theorem hadR_len (p : Pnt) (o : List Int) : (hadR p o).length = p.bs.length := by unfold hadR; simp
theorem hadR_at (p : Pnt) (o : List Int) {k : Nat} (h : k < p.bs.length) : nt (hadR p o) k = ((countI o (k : Int) o.length : Nat) : Int) := by
  unfold hadR nt
  rw [List.getD_eq_getElem?_getD, List.getElem?_map, List.getElem?_range h]
  rfl
theorem nt_ext2 {a b : List Int} (hl : a.length = b.length) (h : ∀ j, j < a.length → nt a j = nt b j) : a = b := nt_ext hl h
theorem hadR_snoc (p : Pnt) (o : List Int) {b : Nat} (h : b < p.bs.length) : hadR p (o ++ [(b : Int)]) = (hadR p o).set b (((countI o (b : Int) o.length : Nat) : Int) + 1) := by
  refine nt_ext (by rw [List.length_set, hadR_len, hadR_len]) fun j hj => ?_
  rw [hadR_len] at hj
  rw [hadR_at p _ hj, nt_set (by rw [hadR_len]; exact h), hadR_at p _ hj, countI_snoc]
  by_cases e : j = b
  · subst e; rw [if_pos rfl, if_pos rfl]; omega
  · rw [if_neg (by omega), if_neg e]
theorem hadR_nil (p : Pnt) : hadR p [] = List.replicate p.bs.length 0 := by
  refine nt_ext (by rw [hadR_len, List.length_replicate]) fun j hj => ?_
  rw [hadR_len] at hj
  rw [hadR_at p _ hj]
  unfold nt
  rw [List.getD_eq_getElem?_getD, List.getElem?_replicate, if_pos hj]
  rfl
/-! ### The dips of an order are a plan that is right -/
theorem cs_st {p : Pnt} (hp : Ok p) {o : List Int} {n : Nat} (hn : n ≤ 400) (hE : NoErr p o n) {l : List Dp} (hl : ∀ j, j < n → dpt l j = ⟨nt o j, hrI p o j⟩) : ∀ j, j ≤ n → csN p l j = stN p o j ∧ AllOk p l j
  | 0, _ => ⟨rfl, fun i hi => absurd hi (by omega)⟩
  | j + 1, h => by
    obtain ⟨e1, e2⟩ := cs_st hp hn hE hl j (by omega)
    have hE2 : NoErr p o j := fun i hi => hE i (by omega)
    obtain ⟨k, hk, hkl, hm, hr, hs, hla⟩ := st_S (hE j (by omega))
    have hB := time_B hp (stN_B hp o j) k
    have h0 := ear_at hp (by omega) hE2 hkl
    obtain ⟨a1, a2, a3, a4, _⟩ := ear_st hp (by omega) hE2 hkl hB.1
    have hfr := fr_le hp (stN p o j) k
    unfold earB at h0
    rw [a1, a2, a4 hfr] at h0
    simp only [Bool.or_eq_false_iff] at h0
    have ec : chkE p (csN p l j) (dpt l j) = 0 := by
      rw [e1, hl j (by omega), hk, hr]
      have hmy : mayE p (stN p o j) (k : Int) = 0 := by rw [may_9 hkl, if_neg (by omega)]
      rw [chk_go hmy (by unfold inB; rw [decide_eq_true hB.1, decide_eq_true (by show timeN p (stN p o j) k ≤ 1048576; omega)]; rfl)]
      dsimp only
      rw [if_neg (by rw [h0.1.1]; decide), if_neg (by rw [h0.1.2]; decide), if_neg hla, if_neg (by rw [h0.2]; decide)]
    refine ⟨?_, fun i hi => ?_⟩
    · rw [cs_S ec, e1, hl j (by omega), hs]
      dsimp only
      rw [hk, hr]; rfl
    · rcases Nat.lt_succ_iff_lt_or_eq.1 hi with h1 | rfl
      · exact e2 i h1
      · exact ec
theorem early_ok1 {p : Pnt} {o : List Int} (h : (timesR p o).2.2 = 0) (ho : o.length ≤ 400) : chkR p (mkD p o o.length) = ((o.length : Int), 0) := by
  obtain ⟨hT, hall, hco, _⟩ := times_0 h
  have hp := pnt_ok hT
  have hA := (cs_st hp ho hall (l := mkD p o o.length) (fun j hj => mkD_at p o hj) o.length (Nat.le_refl _)).2
  rw [chk_end hT (by rw [mkD_len]; exact hA), mkD_len, if_neg (by omega)]
/-- One dip an hour earlier. -/
def earlD (p : Pnt) (o : List Int) (k : Nat) : List Dp := (mkD p o o.length).set k ⟨nt o k, hrI p o k - 1⟩
theorem dpt_set {l : List Dp} {k j : Nat} {x : Dp} (hk : k < l.length) : dpt (l.set k x) j = if j = k then x else dpt l j := by
  unfold dpt
  rw [List.getD_eq_getElem?_getD, List.getD_eq_getElem?_getD, List.getElem?_set]
  by_cases e : k = j
  · subst e; rw [if_pos rfl, if_pos hk, if_pos rfl]; rfl
  · rw [if_neg e, if_neg (fun h => e h.symm)]
theorem early_2 {p : Pnt} {o : List Int} (h : (timesR p o).2.2 = 0) (ho : o.length ≤ 400) {k : Nat} (hk : k < o.length) : ∃ e, chkR p (earlD p o k) = ((k : Int), e) ∧ ((e = 2 ∧ hrI p o k - 1 < 0) ∨ e = 7 ∨ e = 6 ∨ e = 10) := by
  obtain ⟨hT, hall, hco, _⟩ := times_0 h
  have hp := pnt_ok hT
  have hE2 : NoErr p o k := fun i hi => hall i (by omega)
  have hll : k < (mkD p o o.length).length := by rw [mkD_len]; exact hk
  obtain ⟨e1, hA⟩ := cs_st hp (by omega) hE2 (l := earlD p o k) (fun j hj => by
    unfold earlD
    rw [dpt_set hll, if_neg (by omega), mkD_at p o (by omega)]) k (Nat.le_refl _)
  have ex : dpt (earlD p o k) k = ⟨nt o k, hrI p o k - 1⟩ := by unfold earlD; rw [dpt_set hll, if_pos rfl]
  obtain ⟨q, hq, hql, hm, hr, hs, hla⟩ := st_S (hall k hk)
  have hB := time_B hp (stN_B hp o k) q
  have hmy : mayE p (stN p o k) (q : Int) = 0 := by rw [may_9 hql, if_neg (by omega)]
  have hc : ∃ e, chkE p (csN p (earlD p o k) k) (dpt (earlD p o k) k) = e ∧ ((e = 2 ∧ hrI p o k - 1 < 0) ∨ e = 7 ∨ e = 6 ∨ e = 10) := by
    rw [e1, ex, hq, hr]
    by_cases h0 : timeN p (stN p o k) q - 1 < 0
    · refine ⟨2, ?_, .inl ⟨rfl, h0⟩⟩
      unfold chkE
      refine if_pos ?_
      dsimp only
      rw [Bool.or_eq_true]
      right
      unfold inB
      rw [decide_eq_false (by omega)]; rfl
    · have hear := ear_lt hp (by omega) hE2 hql (t := timeN p (stN p o k) q - 1) (by omega) (by omega)
      obtain ⟨a1, a2, a3, a4, _⟩ := ear_st hp (by omega) hE2 hql (t := timeN p (stN p o k) q - 1) (by omega)
      unfold earB at hear
      rw [a1, a2] at hear
      rw [chk_go hmy (by unfold inB; dsimp only; rw [decide_eq_true (by omega), decide_eq_true (by omega)]; rfl)]
      dsimp only
      have hnl : isLateB p (stN p o k) (q : Int) (timeN p (stN p o k) q - 1) = false := by
        cases hx : isLateB p (stN p o k) (q : Int) (timeN p (stN p o k) q - 1) with
        | false => rfl
        | true =>
          exfalso
          refine hla ?_
          unfold isLateB at hx ⊢
          rw [Bool.and_eq_true] at hx ⊢
          have h3 := of_decide_eq_true hx.2
          exact ⟨hx.1, decide_eq_true (by omega)⟩
      by_cases c1 : decide (timeN p (stN p o k) q - 1 < (stN p o k).fr) = true
      · exact ⟨7, if_pos c1, .inr (.inl rfl)⟩
      · rw [if_neg c1]
        by_cases c2 : isWetB (stN p o k) (q : Int) (timeN p (stN p o k) q - 1) = true
        · exact ⟨6, if_pos c2, .inr (.inr (.inl rfl))⟩
        · rw [if_neg c2, if_neg (by rw [hnl]; decide)]
          have c3 : isFullB p (stN p o k) (q : Int) (timeN p (stN p o k) q - 1) = true := by
            rw [a4 (by have := of_decide_eq_false (Bool.eq_false_iff.2 c1); omega)] at hear
            simp only [Bool.or_eq_true] at hear
            rcases hear with (h | h) | h
            · exact absurd h c1
            · exact absurd h c2
            · exact h
          exact ⟨10, if_pos c3, .inr (.inr (.inr rfl))⟩
  obtain ⟨e, h1, h2⟩ := hc
  refine ⟨e, ?_, h2⟩
  rw [chk_err hT (by unfold earlD; rw [List.length_set, mkD_len]; exact hk) hA (by rw [h1]; omega), h1]
end Go.Proofs.Ytibgdkaipleajaa
end
