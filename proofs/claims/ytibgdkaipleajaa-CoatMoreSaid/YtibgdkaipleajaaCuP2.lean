/-
  Chapter 7: all orders, one after the other; the first best one of them is what the search finds. No program in sight.
  Chapter 7: lists of orders, and the best one so far. No program in sight.
-/
import Derived.Test.YtibgdkaipleajaaCuP
import Derived.Test.YtibgdkaipleajaaAgD
section
set_option linter.unusedVariables false
set_option linter.unusedSimpArgs false
namespace Go.Proofs.Ytibgdkaipleajaa
open Go.AF
theorem nt_app {l m : List Int} {j : Nat} (h : j < l.length) : nt (l ++ m) j = nt l j := by
  unfold nt
  rw [List.getD_eq_getElem?_getD, List.getD_eq_getElem?_getD, List.getElem?_append_left h]
theorem nt_end (l m : List Int) (x : Int) : nt (l ++ x :: m) l.length = x := by
  unfold nt
  rw [List.getD_eq_getElem?_getD, List.getElem?_append_right (Nat.le_refl _)]
  simp
theorem stN_app (p : Pnt) (l m : List Int) : ∀ i, i ≤ l.length → stN p (l ++ m) i = stN p l i
  | 0, _ => rfl
  | i + 1, h => by
    have ih := stN_app p l m i (by omega)
    unfold stN
    rw [ih, nt_app (by omega)]
theorem errI_app (p : Pnt) (l m : List Int) {i : Nat} (h : i < l.length) : errI p (l ++ m) i = errI p l i := by
  unfold errI
  rw [stN_app p l m i (by omega), nt_app h]
theorem hrI_app (p : Pnt) (l m : List Int) {i : Nat} (h : i < l.length) : hrI p (l ++ m) i = hrI p l i := by
  unfold hrI
  rw [stN_app p l m i (by omega), nt_app h]
theorem count_many {p : Pnt} {l : List Int} (hE : NoErr p l l.length) (k : Nat) : ∀ i, i ≤ l.length → countI l (k : Int) i = ((stN p l i).had k).many
  | 0, _ => rfl
  | i + 1, h => by
    have ih := count_many hE k i (by omega)
    obtain ⟨q, hq, hql, hm, hr, hs, _⟩ := st_S (hE i (by omega))
    rw [hs]
    show (if nt l i = (k : Int) then countI l (k : Int) i + 1 else countI l (k : Int) i) = (if k = q then hngN p (stN p l i) q (timeN p (stN p l i) q) else (stN p l i).had k).many
    by_cases e : k = q
    · subst e
      rw [if_pos hq, if_pos rfl, ih]
      rfl
    · rw [if_neg (by rw [hq]; omega), if_neg e]
      exact ih
def ordE (p : Pnt) (F : List Int → List (List Int)) (l : List Int) : Nat → List (List Int)
  | 0 => []
  | k + 1 => if countI l (k : Int) l.length < (cot p.bs k).dry.length then ordE p F l k ++ F (l ++ [(k : Int)]) else ordE p F l k
/-- All orders that go on from one, with so many coats more. -/
def ordF (p : Pnt) : Nat → List Int → List (List Int)
  | 0, l => [l]
  | f + 1, l => ordE p (ordF p f) l p.bs.length
theorem ordE_mem {p : Pnt} {F : List Int → List (List Int)} {l o : List Int} : ∀ k, o ∈ ordE p F l k → ∃ j, j < k ∧ o ∈ F (l ++ [(j : Int)])
  | 0, h => by cases h
  | k + 1, h => by
    unfold ordE at h
    split at h
    · rcases List.mem_append.1 h with h1 | h1
      · obtain ⟨j, h2, h3⟩ := ordE_mem k h1
        exact ⟨j, by omega, h3⟩
      · exact ⟨k, by omega, h1⟩
    · obtain ⟨j, h2, h3⟩ := ordE_mem k h
      exact ⟨j, by omega, h3⟩
theorem ordF_mem {p : Pnt} : ∀ f (l o : List Int), o ∈ ordF p f l → ∃ m, o = l ++ m ∧ m.length = f
  | 0, l, o, h => by
    cases List.mem_singleton.1 h
    exact ⟨[], by simp, rfl⟩
  | f + 1, l, o, h => by
    obtain ⟨j, _, h2⟩ := ordE_mem _ h
    obtain ⟨m, rfl, h3⟩ := ordF_mem f _ _ h2
    exact ⟨(j : Int) :: m, by simp, by simp [h3]⟩
theorem ordE_len {p : Pnt} {F : List Int → List (List Int)} {l : List Int} {M : Nat} (hF : ∀ j : Nat, (F (l ++ [(j : Int)])).length ≤ M) : ∀ k, (ordE p F l k).length ≤ k * M
  | 0 => Nat.zero_le _
  | k + 1 => by
    have ih := ordE_len hF (p := p) k
    have h1 := hF k
    have e : (k + 1) * M = k * M + M := Nat.succ_mul _ _
    unfold ordE
    split
    · rw [List.length_append]; omega
    · omega
theorem ordF_len {p : Pnt} (hn : p.bs.length ≤ 4) : ∀ f l, (ordF p f l).length ≤ 4 ^ f
  | 0, l => Nat.le_refl _
  | f + 1, l => by
    have h := ordE_len (p := p) (F := ordF p f) (l := l) (fun j => ordF_len hn f _) p.bs.length
    have h2 : p.bs.length * 4 ^ f ≤ 4 * 4 ^ f := Nat.mul_le_mul_right _ hn
    rw [Nat.pow_succ, Nat.mul_comm]
    exact Nat.le_trans h h2
/-- The best order so far, after one more. -/
def refS (p : Pnt) (st : Bst) (o : List Int) : Bst := if (timesR p o).2.2 = 0 ∧ (st.isNone || decide (doneN (stN p o o.length) < hrV st)) = true then some (o, doneN (stN p o o.length)) else st
theorem fold_stay {p : Pnt} {st : Bst} : ∀ {L : List (List Int)}, (∀ o ∈ L, refS p st o = st) → L.foldl (refS p) st = st
  | [], _ => rfl
  | o :: L, h => by
    rw [List.foldl_cons, h o (List.mem_cons_self ..)]
    exact fold_stay fun o ho => h o (List.mem_cons_of_mem _ ho)
theorem doneN_at (S : Shp) : ∀ k, k < 4 → (S.had k).surely ≤ doneN S := by
  intro k hk
  unfold doneN
  have : k = 0 ∨ k = 1 ∨ k = 2 ∨ k = 3 := by omega
  rcases this with rfl | rfl | rfl | rfl <;> omega
theorem doneN_mono {S T : Shp} (h : ∀ k, k < 4 → (S.had k).surely ≤ (T.had k).surely) : doneN S ≤ doneN T := by
  have h0 := h 0 (by omega)
  have h1 := h 1 (by omega)
  have h2 := h 2 (by omega)
  have h3 := h 3 (by omega)
  unfold doneN
  omega
theorem dip_sure {p : Pnt} (hp : Ok p) {S : Shp} {b : Nat} (hb : b < p.bs.length) (hm : (S.had b).many < (cot p.bs b).dry.length) (hz : ∀ k, (S.had k).many = 0 → (S.had k).surely ≤ S.fr) (k : Nat) : (S.had k).surely ≤ ((dipN p S b (timeN p S b)).had k).surely := by
  show _ ≤ (if k = b then hngN p S b (timeN p S b) else S.had k).surely
  by_cases e : k = b
  · subst e
    rw [if_pos rfl]
    show _ ≤ timeN p S k + p.dip + (spt (cot p.bs k).dry (S.had k).many).hi
    have h1 := hour_le hp S k
    have hd := hp.dip
    have hs := hp.dry _ (cot_mem hb) _ (spt_mem hm)
    have h2 : (S.had k).surely ≤ hourN S k := by
      by_cases h0 : ((S.had k).many : Int) > 0
      · rw [show hourN S k = max S.fr (S.had k).surely from if_pos h0]; omega
      · rw [show hourN S k = S.fr from if_neg h0]; exact hz k (by omega)
    omega
  · rw [if_neg e]
    exact Int.le_refl _
theorem st_zero {p : Pnt} (hp : Ok p) {o : List Int} : ∀ i, NoErr p o i → ∀ k, ((stN p o i).had k).many = 0 → ((stN p o i).had k).surely = 0
  | 0, _, k, _ => rfl
  | i + 1, hE, k, h => by
    obtain ⟨q, hq, hql, hm, hr, hs, _⟩ := st_S (hE i (by omega))
    rw [hs] at h ⊢
    revert h
    show (if k = q then hngN p (stN p o i) q (timeN p (stN p o i) q) else (stN p o i).had k).many = 0 → (if k = q then hngN p (stN p o i) q (timeN p (stN p o i) q) else (stN p o i).had k).surely = 0
    by_cases e : k = q
    · rw [if_pos e]
      intro h
      exact absurd h (Nat.succ_ne_zero _)
    · rw [if_neg e]
      exact st_zero hp i (fun j hj => hE j (by omega)) k
theorem done_up {p : Pnt} (hp : Ok p) {o : List Int} {i : Nat} : ∀ j, i ≤ j → NoErr p o j → doneN (stN p o i) ≤ doneN (stN p o j)
  | 0, h, _ => by rw [show i = 0 by omega]; exact Int.le_refl _
  | j + 1, h, hE => by
    rcases Nat.lt_or_ge i (j + 1) with h1 | h1
    · have ih := done_up hp (i := i) j (by omega) fun q hq => hE q (by omega)
      obtain ⟨q, hq, hql, hm, hr, hs, _⟩ := st_S (hE j (by omega))
      have hB := stN_B hp o j
      have h2 : doneN (stN p o j) ≤ doneN (stN p o (j + 1)) := doneN_mono fun k _ => by
        rw [hs]
        exact dip_sure hp hql hm (fun k hk => by rw [st_zero hp j (fun q hq => hE q (by omega)) k hk]; exact hB.fr.1) k
      omega
    · rw [show i = j + 1 by omega]; exact Int.le_refl _
theorem next_9 {p : Pnt} {S : Shp} {k : Nat} (hk : k < p.bs.length) (h : (S.had k).many ≥ (cot p.bs k).dry.length) : (nextN p S (k : Int)).2.2 = 9 := by
  have e : mayE p S (k : Int) = 9 := by rw [may_9 hk, if_pos h]
  unfold nextN
  rw [if_pos (by rw [e]; decide)]
  exact e
theorem err_end (p : Pnt) (l m : List Int) (x : Int) : errI p (l ++ x :: m) l.length = (nextN p (stN p l l.length) x).2.2 := by
  unfold errI
  rw [stN_app p l _ l.length (Nat.le_refl _), nt_end]
theorem st_end (p : Pnt) (l : List Int) (x : Int) : stN p (l ++ [x]) (l.length + 1) = (nextN p (stN p l l.length) x).1 := by
  show (nextN p (stN p (l ++ [x]) l.length) (nt (l ++ [x]) l.length)).1 = _
  rw [stN_app p l _ l.length (Nat.le_refl _), nt_end]
theorem refF {p : Pnt} (hT : pntB p = true) : ∀ (f : Nat) (l : List Int) (st : Bst), NoErr p l l.length → l.length + f = coats p → (ordF p f l).foldl (refS p) st = bstF p f (stN p l l.length) l st
  | 0, l, st, hE, hl => by
    have e : timesR p l = (hrs p l l.length, (l.length : Int), 0) := by
      rw [times_end hT hE, if_neg (by omega)]
    show refS p st l = _
    unfold refS bstF
    rw [e]
    simp only [true_and]
  | f + 1, l, st, hE, hl => by
    have hp := pnt_ok hT
    show (ordE p (ordF p f) l p.bs.length).foldl (refS p) st = bstE p (bstF p f) (stN p l l.length) l p.bs.length st
    have hk : ∀ k, k ≤ p.bs.length → (ordE p (ordF p f) l k).foldl (refS p) st = bstE p (bstF p f) (stN p l l.length) l k st := by
      intro k
      induction k with
      | zero => intro _; rfl
      | succ k ih =>
        intro hkn
        have ih := ih (by omega)
        have hc := count_many hE k l.length (Nat.le_refl _)
        unfold ordE bstE
        by_cases hlt : countI l (k : Int) l.length < (cot p.bs k).dry.length
        · rw [if_pos hlt, List.foldl_append, ih]
          by_cases he : (nextN p (stN p l l.length) (k : Int)).2.2 = 0
          · have hE2 : NoErr p (l ++ [(k : Int)]) (l ++ [(k : Int)]).length := by
              intro j hj
              rw [List.length_append] at hj
              have hj2 : j < l.length + 1 := hj
              rcases Nat.lt_succ_iff_lt_or_eq.1 hj2 with h1 | rfl
              · rw [errI_app p l _ h1]; exact hE j h1
              · rw [err_end]; exact he
            have hlen : (l ++ [(k : Int)]).length = l.length + 1 := by simp
            by_cases hs : skipB p (stN p l l.length) k (bstE p (bstF p f) (stN p l l.length) l k st) = true
            · rw [if_pos hs]
              refine fold_stay fun o ho => ?_
              obtain ⟨m, rfl, hm⟩ := ordF_mem f _ _ ho
              unfold refS
              refine if_neg fun hh => ?_
              obtain ⟨ht, hd⟩ := hh
              obtain ⟨_, hall, _, _⟩ := times_0 ht
              unfold skipB at hs
              rw [decide_eq_true he] at hs
              simp only [Bool.not_true, Bool.false_or, Bool.and_eq_true, Bool.not_eq_true', decide_eq_true_eq] at hs
              rw [hs.1] at hd
              have hd2 := of_decide_eq_true (show decide _ = true from hd)
              have h3 := done_up hp (o := l ++ [(k : Int)] ++ m) (i := l.length + 1) (l ++ [(k : Int)] ++ m).length (by simp) hall
              rw [stN_app p (l ++ [(k : Int)]) m (l.length + 1) (by rw [hlen]; exact Nat.le_refl _), st_end] at h3
              have h4 := hs.2
              omega
            · rw [if_neg hs, refF hT f (l ++ [(k : Int)]) _ hE2 (by rw [hlen]; omega), hlen, st_end]
          · have hs : skipB p (stN p l l.length) k (bstE p (bstF p f) (stN p l l.length) l k st) = true := by
              unfold skipB
              rw [decide_eq_false he]
              rfl
            rw [if_pos hs]
            refine fold_stay fun o ho => ?_
            obtain ⟨m, rfl, hm⟩ := ordF_mem f _ _ ho
            unfold refS
            refine if_neg fun hh => ?_
            obtain ⟨ht, hd⟩ := hh
            obtain ⟨_, hall, _, _⟩ := times_0 ht
            have h1 := hall l.length (by simp)
            rw [List.append_assoc] at h1
            rw [show [(k : Int)] ++ m = (k : Int) :: m from rfl, err_end] at h1
            exact he h1
        · rw [if_neg hlt]
          have hs : skipB p (stN p l l.length) k (bstE p (bstF p f) (stN p l l.length) l k st) = true := by
            unfold skipB
            rw [decide_eq_false (by rw [next_9 (by omega) (by omega)]; decide)]
            rfl
          rw [if_pos hs]
          exact ih
    exact hk _ (Nat.le_refl _)
theorem best_ref {p : Pnt} (hT : pntB p = true) : (ordF p (coats p) []).foldl (refS p) none = bstF p (coats p) shp0 [] none :=
  refF hT (coats p) [] none (fun j hj => by cases hj) (Nat.zero_add _)
/-- When all is done, batch by batch, as the document says it. -/
def doneD (p : Pnt) (l : List Dp) : Nat → Int
  | 0 => 0
  | i + 1 => if (lastD p l (i : Int) l.length).2.2 = true then max (doneD p l i) ((lastD p l (i : Int) l.length).1 + (lastD p l (i : Int) l.length).2.1.hi) else doneD p l i
theorem fS_zero {p : Pnt} {l : List Dp} (hG : Good p l) (k : Nat) : ∀ i, i ≤ l.length → ((fS p l i).had k).many = 0 → ((fS p l i).had k).surely = 0
  | 0, _, _ => rfl
  | i + 1, hi, h => by
    have ih := fS_zero hG k i (by omega)
    obtain ⟨k2, h2, _⟩ := hG i (by omega)
    have e0 : (fS p l (i + 1)).had k = if k = k2 then hngN p (fS p l i) k2 (dpt l i).h else (fS p l i).had k := by
      show (if k = (dpt l i).b.toNat then hngN p (fS p l i) (dpt l i).b.toNat (dpt l i).h else (fS p l i).had k) = _
      rw [h2]; rfl
    rw [e0] at h ⊢
    by_cases e : k = k2
    · rw [if_pos e] at h
      exact absurd h (Nat.succ_ne_zero _)
    · rw [if_neg e] at h ⊢
      exact ih h
theorem fS_out {p : Pnt} {l : List Dp} (hG : Good p l) {k : Nat} (hk : p.bs.length ≤ k) : ∀ i, i ≤ l.length → ((fS p l i).had k).many = 0
  | 0, _ => rfl
  | i + 1, hi => by
    have ih := fS_out hG hk i (by omega)
    obtain ⟨k2, h2, hkl, _⟩ := hG i (by omega)
    have e0 : (fS p l (i + 1)).had k = if k = k2 then hngN p (fS p l i) k2 (dpt l i).h else (fS p l i).had k := by
      show (if k = (dpt l i).b.toNat then hngN p (fS p l i) (dpt l i).b.toNat (dpt l i).h else (fS p l i).had k) = _
      rw [h2]; rfl
    rw [e0, if_neg (by omega)]
    exact ih
def doneM (S : Shp) : Nat → Int
  | 0 => 0
  | i + 1 => max (doneM S i) (S.had i).surely
theorem doneM_0 (S : Shp) : ∀ i, 0 ≤ doneM S i
  | 0 => Int.le_refl _
  | i + 1 => by have := doneM_0 S i; unfold doneM; omega
theorem doneM_out {S : Shp} {n : Nat} (h : ∀ k, n ≤ k → (S.had k).surely = 0) : ∀ m, n ≤ m → doneM S m = doneM S n
  | 0, hm => by rw [show n = 0 by omega]
  | m + 1, hm => by
    rcases Nat.lt_or_ge n (m + 1) with h1 | h1
    · have ih := doneM_out h m (by omega)
      have h0 := doneM_0 S m
      rw [show doneM S (m + 1) = max (doneM S m) (S.had m).surely from rfl, h m (by omega), ih]
      omega
    · rw [show n = m + 1 by omega]
theorem doneD_M {p : Pnt} {l : List Dp} (hG : Good p l) : ∀ i, doneD p l i = doneM (fS p l l.length) i
  | 0 => rfl
  | i + 1 => by
    have ih := doneD_M hG i
    have h0 := doneM_0 (fS p l l.length) i
    have hl := last_fS hG i l.length (Nat.le_refl _)
    have hz := fS_zero hG i l.length (Nat.le_refl _)
    unfold doneD doneM
    rw [ih]
    rcases hl with ⟨h1, h2⟩ | ⟨h1, d, h2, h3, h4, h5⟩
    · rw [h2, if_neg (by decide), hz h1]
      omega
    · rw [h2, if_pos rfl, h5]
theorem doneD_N {p : Pnt} (hn : p.bs.length ≤ 4) {l : List Dp} (hG : Good p l) : doneD p l p.bs.length = doneN (fS p l l.length) := by
  rw [doneD_M hG]
  exact (doneM_out (fun k hk => fS_zero hG k l.length (Nat.le_refl _) (fS_out hG hk l.length (Nat.le_refl _))) 4 hn).symm
theorem doneD_B {p : Pnt} (hp : Ok p) {l : List Dp} (hG : Good p l) : ∀ i, 0 ≤ doneD p l i ∧ doneD p l i ≤ 1073742848
  | 0 => ⟨Int.le_refl _, by show (0 : Int) ≤ 1073742848; decide⟩
  | i + 1 => by
    have ih := doneD_B hp hG i
    have h := lastD_B hp hG (i : Int) l.length (Nat.le_refl _)
    unfold doneD
    split
    · omega
    · exact ih
end Go.Proofs.Ytibgdkaipleajaa
end

section
set_option linter.unusedVariables false
set_option linter.unusedSimpArgs false
namespace Go.Proofs.Ytibgdkaipleajaa
open Go.AF
def oV (o : List Int) : List PV := [intsV o]
def ordsV (L : List (List Int)) : PV := .is (L.flatMap oV) L.length
def lsI (L : List (List Int)) (i : Nat) : List Int := L.getD i []
theorem lsI_get {L : List (List Int)} : ∀ k (h : k < L.length), L[k] = lsI L k := fun k h => by
  unfold lsI
  rw [List.getD_eq_getElem?_getD, List.getElem?_eq_getElem h]; rfl
theorem lsI_mem {L : List (List Int)} {k : Nat} (h : k < L.length) : lsI L k ∈ L := by rw [← lsI_get k h]; exact List.getElem_mem _
theorem accP_pos {xs : List PV} {n : Nat} (h : 0 < n) : accP xs n = .is xs n := by
  cases n with
  | zero => omega
  | succ n => rfl
theorem alen_accP (xs : List PV) : ∀ n, alen (.p (accP xs n)) = some n
  | 0 => rfl
  | n + 1 => rfl
theorem asrc_accP {H : List Blk} {xs : List PV} {n sz : Nat} (h : xs.length = n * sz) : asrc H sz (.p (accP xs n)) = some (xs.map .p, n) := by
  cases n with
  | zero =>
    rw [List.eq_nil_of_length_eq_zero (l := xs) (by omega)]
    rfl
  | succ n => exact asrc_is h
theorem frz_accN {i j : Nat} (hij : (j == i) = false) (xs : List PV) (n : Nat) : frzV i xs (accV j n) = accV j n := by
  cases n with
  | zero => rfl
  | succ n =>
    unfold accV
    simp only [frzV]
    first | rfl | (simp [Nat.beq_eq, hij]; done) | (rw [if_neg (by simpa using hij)])
def accL (p : Pnt) (f : Nat) (l : List Int) (L : List (List Int)) : Nat → List (List Int)
  | 0 => L
  | k + 1 => if countI l (k : Int) l.length < (cot p.bs k).dry.length then accL p f l L k ++ ordF p f (l ++ [(k : Int)]) else accL p f l L k
theorem accL_E (p : Pnt) (f : Nat) (l : List Int) (L : List (List Int)) : ∀ k, accL p f l L k = L ++ ordE p (ordF p f) l k
  | 0 => (List.append_nil L).symm
  | k + 1 => by
    have ih := accL_E p f l L k
    unfold accL ordE
    split
    · rw [ih, List.append_assoc]
    · exact ih
theorem accL_n (p : Pnt) (f : Nat) (l : List Int) (L : List (List Int)) : accL p f l L p.bs.length = L ++ ordF p (f + 1) l := accL_E p f l L _
theorem accL_len {p : Pnt} (hn : p.bs.length ≤ 4) (f : Nat) (l : List Int) (L : List (List Int)) (k : Nat) : (accL p f l L k).length ≤ L.length + k * 4 ^ f := by
  have h := ordE_len (p := p) (F := ordF p f) (l := l) (M := 4 ^ f) (fun j => ordF_len hn f _) k
  rw [accL_E, List.length_append]
  omega
theorem pow_room {L f k : Nat} (hk : k < 4) (h : L + 4 ^ (f + 1) ≤ 5000) {a : Nat} (ha : a ≤ L + k * 4 ^ f) : a + 4 ^ f ≤ 5000 := by
  have h1 : k * 4 ^ f ≤ 3 * 4 ^ f := Nat.mul_le_mul_right _ (by omega)
  rw [Nat.pow_succ] at h
  omega
/-- The best order so far, and its place. -/
def refN (p : Pnt) (L : List (List Int)) : Nat → Bst
  | 0 => none
  | i + 1 => refS p (refN p L i) (lsI L i)
def impB (p : Pnt) (st : Bst) (o : List Int) : Bool := decide ((timesR p o).2.2 = 0) && (st.isNone || decide (doneN (stN p o o.length) < hrV st))
def idxN (p : Pnt) (L : List (List Int)) : Nat → Int
  | 0 => -1
  | i + 1 => if impB p (refN p L i) (lsI L i) = true then (i : Int) else idxN p L i
theorem refS_T {p : Pnt} {st : Bst} {o : List Int} (h : impB p st o = true) : refS p st o = some (o, doneN (stN p o o.length)) := by
  unfold impB at h
  rw [Bool.and_eq_true] at h
  exact if_pos ⟨of_decide_eq_true h.1, h.2⟩
theorem refS_F {p : Pnt} {st : Bst} {o : List Int} (h : impB p st o = false) : refS p st o = st := by
  refine if_neg fun hh => ?_
  unfold impB at h
  rw [decide_eq_true hh.1, hh.2] at h
  cases h
theorem idx_in (p : Pnt) (L : List (List Int)) : ∀ i, i ≤ L.length → (refN p L i = none ∧ idxN p L i = -1) ∨ (∃ k : Nat, k < i ∧ idxN p L i = (k : Int) ∧ ∃ t, refN p L i = some (lsI L k, t))
  | 0, _ => .inl ⟨rfl, rfl⟩
  | i + 1, h => by
    have ih := idx_in p L i (by omega)
    unfold refN idxN
    cases hb : impB p (refN p L i) (lsI L i) with
    | true =>
      rw [if_pos rfl, refS_T hb]
      exact .inr ⟨i, by omega, rfl, _, rfl⟩
    | false =>
      rw [if_neg (by decide), refS_F hb]
      rcases ih with h1 | ⟨k, h1, h2⟩
      · exact .inl h1
      · exact .inr ⟨k, by omega, h2⟩
theorem idx_none (p : Pnt) (L : List (List Int)) {i : Nat} (h : i ≤ L.length) : (refN p L i).isNone = decide (idxN p L i < 0) := by
  rcases idx_in p L i h with ⟨h1, h2⟩ | ⟨k, h1, h2, t, h3⟩
  · rw [h1, h2]; rfl
  · rw [h3, h2, decide_eq_false (by omega)]; rfl
theorem refN_take (p : Pnt) (L : List (List Int)) : ∀ i, i ≤ L.length → refN p L i = (L.take i).foldl (refS p) none
  | 0, _ => rfl
  | i + 1, h => by
    rw [refN, refN_take p L i (by omega), ← List.take_append_getElem (show i < L.length by omega), List.foldl_append, lsI_get i (by omega)]
    rfl
theorem refN_best {p : Pnt} (hT : pntB p = true) : refN p (ordF p (coats p) []) (ordF p (coats p) []).length = bstF p (coats p) shp0 [] none := by
  rw [refN_take p _ _ (Nat.le_refl _), List.take_length, best_ref hT]
def dxV (p : Pnt) (o : List Int) : PV := if (timesR p o).2.2 = 0 then dpsV (mkD p o o.length) else .nilSlice
theorem ref_hr {p : Pnt} (hp : Ok p) (L : List (List Int)) (hL : ∀ o ∈ L, o.length ≤ 9) : ∀ i, i ≤ L.length → 0 ≤ hrV (refN p L i)
  | 0, _ => Int.le_refl _
  | i + 1, h => by
    have ih := ref_hr hp L hL i (by omega)
    cases hb : impB p (refN p L i) (lsI L i) with
    | true =>
      rw [refN, refS_T hb]
      show 0 ≤ doneN _
      unfold doneN
      omega
    | false =>
      rw [refN, refS_F hb]
      exact ih
theorem ord9 {p : Pnt} (hp : Ok p) {o : List Int} (h : o ∈ ordF p (coats p) []) : o.length = coats p := by
  obtain ⟨m, rfl, hm⟩ := ordF_mem _ _ _ h
  simpa using hm
theorem fS_mk {p : Pnt} {o : List Int} (hE : NoErr p o o.length) : fS p (mkD p o o.length) (mkD p o o.length).length = stN p o o.length := by
  rw [mkD_len]
  exact fS_st hE _ (Nat.le_refl _)
end Go.Proofs.Ytibgdkaipleajaa
end
