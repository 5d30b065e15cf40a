/-
  Plain laws of chapter 2: with one stroke more, a lesser tolerance or narrower graphite no span is wider; twice as much, more graphite, strokes in another order. No program in sight.
-/
import Derived.Test.YthiapodcippnoaaSdT
set_option linter.unusedVariables false
set_option linter.unusedSimpArgs false
namespace Go.Proofs.Ythiapodcippnoaa
open Go.AF
theorem blackR_six {c : List Tnt} {x : Lds} (hc : okC c) (hx : ldB x = true) (h : (blackR c x).2 ≠ 0) : (blackR c x).2 = 6 := by
  rw [blackR_eq, if_pos hc, if_pos hx] at h ⊢
  split
  · rename_i hb
    rw [if_pos hb] at h
    exact absurd rfl h
  · rfl
theorem has_none {c : List Tnt} {s : List Shd} {l : Lds} (h : (blackR c l).2 ≠ 0) : (hasR c s l).1 = [] := by
  unfold hasR
  split
  · rename_i h0
    exfalso
    rw [hasE_eq] at h0
    split at h0
    · split at h0
      · cases h0
      · split at h0
        · exact h h0
        · cases h0
    · cases h0
  · rfl
/-- Where in a list that was picked from another one a walk through the other one is. -/
def atF (P : Int → Bool) (now : List Int) (g : Nat) : Nat := ((now.take g).filter P).length
theorem atF_le (P : Int → Bool) (now : List Int) (g : Nat) : atF P now g ≤ (now.filter P).length := by
  unfold atF
  exact List.Sublist.length_le ((List.take_sublist _ _).filter _)
theorem atF_le2 (P : Int → Bool) (now : List Int) (g : Nat) : atF P now g ≤ g := by
  unfold atF
  exact Nat.le_trans (List.length_filter_le _ _) (by rw [List.length_take]; omega)
theorem atF_succ {P : Int → Bool} {now : List Int} {g : Nat} (h : g < now.length) : atF P now (g + 1) = if P (nt now g) then atF P now g + 1 else atF P now g := by
  unfold atF
  rw [List.take_succ_eq_append_getElem h, List.filter_append, List.length_append, nt_get h]
  cases hp : P (nt now g) with
  | true => simp [hp]
  | false => simp [hp]
theorem atF_all (P : Int → Bool) (now : List Int) : atF P now now.length = (now.filter P).length := by
  unfold atF; rw [List.take_length]
theorem atF_hit {P : Int → Bool} {now : List Int} (hn : now.Nodup) {g : Nat} (h : g < now.length) : (decide (atF P now g < (now.filter P).length) && decide (nt (now.filter P) (atF P now g) = nt now g)) = P (nt now g) := by
  have e : now = now.take g ++ nt now g :: now.drop (g + 1) := by
    conv => lhs; rw [← List.take_append_drop g now, List.drop_eq_getElem_cons h, nt_get h]
  have ef : now.filter P = (now.take g).filter P ++ (nt now g :: now.drop (g + 1)).filter P := by
    conv => lhs; rw [e]
    rw [List.filter_append]
  have hnt : nt (now.filter P) (atF P now g) = ((nt now g :: now.drop (g + 1)).filter P).getD 0 0 := by
    unfold nt atF
    rw [ef, List.getD_eq_getElem?_getD, List.getElem?_append_right (Nat.le_refl _), Nat.sub_self, ← List.getD_eq_getElem?_getD]
    rfl
  have hlen : (now.filter P).length = atF P now g + ((nt now g :: now.drop (g + 1)).filter P).length := by
    rw [ef, List.length_append]; rfl
  cases hp : P (nt now g) with
  | true =>
    rw [hnt, hlen, List.filter_cons_of_pos hp]
    simp
  | false =>
    rw [hnt, hlen, List.filter_cons_of_neg (by rw [hp]; decide)]
    cases hd : (now.drop (g + 1)).filter P with
    | nil => simp
    | cons y ys =>
      have hy : y ∈ now.drop (g + 1) := (List.mem_filter.1 (by rw [hd]; exact List.mem_cons_self)).1
      have hne : y ≠ nt now g := by
        rw [e] at hn
        have h2 := (List.nodup_append.1 hn).2.1
        rw [List.nodup_cons] at h2
        intro h3
        subst h3
        exact h2.1 hy
      simp [hne]
theorem idxs_filter {p q : Nat → Bool} (hpq : ∀ i, p i = true → q i = true) : ∀ n, idxs p n = (idxs q n).filter fun x => p x.toNat
  | 0 => rfl
  | n + 1 => by
    have ih := idxs_filter hpq n
    unfold idxs
    cases hp : p n with
    | true =>
      rw [if_pos rfl, if_pos (hpq n hp), List.filter_append, ← ih]
      simp [hp]
    | false =>
      rw [if_neg (by decide)]
      cases hq : q n with
      | true =>
        rw [if_pos rfl, List.filter_append, ← ih]
        simp [hp]
      | false => rw [if_neg (by decide)]; exact ih
theorem idxs_lt {q : Nat → Bool} : ∀ {n : Nat} {x : Int}, x ∈ idxs q n → x < n
  | 0, x, h => by simp [idxs] at h
  | n + 1, x, h => by
    unfold idxs at h
    split at h
    · rcases List.mem_append.1 h with h1 | h1
      · have := idxs_lt h1; push_cast; omega
      · simp at h1; subst h1; push_cast; omega
    · have := idxs_lt h; push_cast; omega
theorem idxs_nodup (q : Nat → Bool) : ∀ n, (idxs q n).Nodup
  | 0 => List.nodup_nil
  | n + 1 => by
    have ih := idxs_nodup q n
    unfold idxs
    split
    · rw [List.nodup_append]
      refine ⟨ih, by simp, fun a ha b hb => ?_⟩
      simp at hb
      subst hb
      have := idxs_lt ha
      omega
    · exact ih
structure MoreOk (c : List Tnt) (s : List Shd) (l x : Lds) : Prop where
  lo : (blk c l).1 ≤ (blk c x).1
  hi : (blk c x).2 ≤ (blk c l).2
  e : (hasR c s x).2 = (hasR c s l).2
  p : ∃ P : Int → Bool, (hasR c s l).1 = (hasR c s x).1.filter P
  d : (hasR c s x).1.Nodup
theorem span_in {c : List Tnt} {l x : Lds} (hc : okC c) (hl : OkL l) (hx : OkL x) (hb : (blk c x).1 ≤ (blk c x).2) (himp : ∀ n, 0 ≤ n → n ≤ 200 → holdsI c x n → holdsI c l n) : (blk c l).1 ≤ (blk c x).1 ∧ (blk c x).2 ≤ (blk c l).2 := by
  have h1 := (holds_iff hc hx (blk c x).1).2 ⟨Int.le_refl _, hb⟩
  have h2 := (holds_iff hc hx (blk c x).2).2 ⟨hb, Int.le_refl _⟩
  have k1 := (holds_iff hc hl (blk c x).1).1 ⟨h1.1, himp _ h1.1.1 h1.1.2 h1.2⟩
  have k2 := (holds_iff hc hl (blk c x).2).1 ⟨h2.1, himp _ h2.1.1 h2.1.2 h2.2⟩
  exact ⟨k1.1, k2.2⟩
theorem hasR_snd (c : List Tnt) (s : List Shd) (l : Lds) : (hasR c s l).2 = hasE c s l := by
  unfold hasR
  split
  · rename_i h; exact h.symm
  · rfl
theorem more_of {c : List Tnt} {s : List Shd} {l x : Lds} (h0 : (blackR c l).2 = 0) (hx0 : (blackR c x).2 = 0) (hsw : (x.slo = l.slo ∧ x.shi = l.shi) ∧ x.wlo = l.wlo ∧ x.whi = l.whi)
    (himp : OkL x → ∀ n, 0 ≤ n → n ≤ 200 → holdsI c x n → holdsI c l n) : MoreOk c s l x := by
  have ol := blackR_ok h0
  have ox := blackR_ok hx0
  have hs := span_in ol.oc ol.ol ox.ol ox.ob.2.1 (himp ox.ol)
  have he : hasE c s x = hasE c s l := by
    rw [hasE_eq, hasE_eq, h0, hx0, (ldB_iff l).2 ol.ol, (ldB_iff x).2 ox.ol]
  have hpq : ∀ i, hasQ c (sh s i) l = true → hasQ c (sh s i) x = true := fun i h => by
    have h2 := of_decide_eq_true h
    refine decide_eq_true ?_
    rw [hsw.1.1, hsw.1.2, hsw.2.1, hsw.2.2]
    omega
  refine ⟨hs.1, hs.2, by rw [hasR_snd, hasR_snd, he], ?_, ?_⟩
  · rcases Int.decEq (hasE c s l) 0 with h | h
    · refine ⟨fun _ => true, ?_⟩
      unfold hasR
      rw [he, if_neg h, if_neg h]; rfl
    · refine ⟨fun y => hasQ c (sh s y.toNat) l, ?_⟩
      unfold hasR
      rw [he, if_pos h, if_pos h]
      exact idxs_filter hpq _
  · unfold hasR
    split
    · exact idxs_nodup _ _
    · exact List.nodup_nil
/-- The three leads that are surely no less known. -/
def richL (l : Lds) (mo : Stk) : Lds := { l with st := l.st ++ [mo] }
def lessL (l : Lds) (y : Nat) : Lds := { l with tol := max 0 (l.tol - ((y % 8 : Nat) : Int)) }
def thinL (l : Lds) (y : Nat) : Lds := { l with glo := min l.ghi (l.glo + (y : Int)) }
def moreL (l : Lds) (mo : Stk) (y : Nat) : List Lds := [richL l mo, lessL l y, thinL l y]
def moreX (l : Lds) (mo : Stk) (y i : Nat) : Lds := (moreL l mo y).getD i l
theorem moreX_get (l : Lds) (mo : Stk) (y : Nat) : ∀ k (h : k < (moreL l mo y).length), (moreL l mo y)[k] = moreX l mo y k := fun k h => by
  unfold moreX
  rw [List.getD_eq_getElem?_getD, List.getElem?_eq_getElem h]; rfl
theorem moreX_st (l : Lds) (mo : Stk) (y i : Nat) : (moreX l mo y i).st.length ≤ l.st.length + 1 := by
  match i with
  | 0 => show (l.st ++ [mo]).length ≤ _; rw [List.length_append]; exact Nat.le_refl _
  | 1 => exact Nat.le_succ _
  | 2 => exact Nat.le_succ _
  | n + 3 => exact Nat.le_succ _
theorem more_three {c : List Tnt} {s : List Shd} {l : Lds} (h0 : (blackR c l).2 = 0) (mo : Stk) (y i : Nat) (hi : i < 3) (hx : (blackR c (moreX l mo y i)).2 = 0) : MoreOk c s l (moreX l mo y i) := by
  have ol := blackR_ok h0
  have lg := ol.ol.g
  have lc := ol.ol.c
  have lt := ol.ol.t
  have f1 := frac_ok ol.oc (g := l.glo) (cl := l.chi) (by omega) (by omega) (by omega) (by omega)
  have f2 := frac_ok ol.oc (g := l.ghi) (cl := l.clo) (by omega) (by omega) (by omega) (by omega)
  match i, hi with
  | 0, _ => exact more_of h0 hx ⟨⟨rfl, rfl⟩, rfl, rfl⟩ fun _ n _ _ h => ⟨h.1, fun x hx => h.2 x (List.mem_append_left _ hx)⟩
  | 1, _ =>
    refine more_of h0 hx ⟨⟨rfl, rfl⟩, rfl, rfl⟩ fun _ n _ _ h => ⟨⟨?_, ?_⟩, h.2⟩
    · have h1 : topI c l.glo l.chi ≤ (n + max 0 (l.tol - ((y % 8 : Nat) : Int))) * undI c l.glo l.chi := h.1.1
      exact Int.le_trans h1 (Int.mul_le_mul_of_nonneg_right (by omega) (by have := f1.u; omega))
    · have h1 : n * undI c l.ghi l.clo ≤ topI c l.ghi l.clo + max 0 (l.tol - ((y % 8 : Nat) : Int)) * undI c l.ghi l.clo := h.1.2
      have h2 := Int.mul_le_mul_of_nonneg_right (show max 0 (l.tol - ((y % 8 : Nat) : Int)) ≤ l.tol by omega) (show 0 ≤ undI c l.ghi l.clo by have := f2.u; omega)
      omega
  | 2, _ =>
    refine more_of h0 hx ⟨⟨rfl, rfl⟩, rfl, rfl⟩ fun ox n _ _ h => ⟨⟨?_, h.1.2⟩, h.2⟩
    have h1 : topI c (min l.ghi (l.glo + (y : Int))) l.chi ≤ (n + l.tol) * undI c (min l.ghi (l.glo + (y : Int))) l.chi := h.1.1
    obtain ⟨g, hg⟩ : ∃ g, g = min l.ghi (l.glo + (y : Int)) := ⟨_, rfl⟩
    rw [← hg] at h1
    have f3 := frac_ok ol.oc (g := g) (cl := l.chi) (by omega) (by omega) (by omega) (by omega)
    have m := curve_mono ol.oc (g := l.glo) (cl := l.chi) (g' := g) (cl' := l.chi) (by omega) (by omega) (by omega) (by omega) (by omega) (by omega) (by omega) (by omega) (by
      have := Int.mul_le_mul_of_nonneg_right (show l.glo ≤ g by omega) (show 0 ≤ l.chi by omega)
      rw [Int.mul_add, Int.mul_add, Int.mul_comm g l.glo]
      omega)
    have k1 := Int.mul_le_mul_of_nonneg_right h1 (show 0 ≤ undI c l.glo l.chi by have := f1.u; omega)
    have e : (n + l.tol) * undI c g l.chi * undI c l.glo l.chi = (n + l.tol) * undI c l.glo l.chi * undI c g l.chi := by rw [Int.mul_assoc, Int.mul_assoc, Int.mul_comm (undI c g l.chi)]
    rw [e] at k1
    exact Int.le_of_mul_le_mul_right (Int.le_trans m k1) (by have := f3.u; omega)
/-! ### Twice as much -/
def twiceL (l : Lds) : Lds := { l with glo := 2 * l.glo, ghi := 2 * l.ghi, clo := 2 * l.clo, chi := 2 * l.chi }
theorem segF_two (c : List Tnt) (g a : Int) : ∀ k i, segF c (2 * g) (2 * a) k i = segF c g a k i
  | 0, _ => rfl
  | k + 1, i => by
    unfold segF
    have e : (tn c (i + 1)).r * (2 * a) = 2 * ((tn c (i + 1)).r * a) := Int.mul_left_comm _ _ _
    rw [e, segF_two c g a k (i + 1)]
    by_cases h : (tn c (i + 1)).r * a < 1000 * g
    · rw [if_pos (by omega), if_pos h]
    · rw [if_neg (by omega), if_neg h]
theorem two_seg (c : List Tnt) (g cl : Int) : seg c (2 * g) (2 * g + 2 * cl) = seg c g (g + cl) := by
  unfold seg
  rw [← Int.mul_add]
  exact segF_two _ _ _ _ _
theorem two_top (c : List Tnt) (g cl : Int) : topI c (2 * g) (2 * cl) = 2 * topI c g cl := by
  unfold topI
  rw [two_seg, ← Int.mul_add]
  dsimp only
  generalize seg c g (g + cl) = i
  have e1 : (tn c i).b * ((tn c (i + 1)).r - (tn c i).r) * (2 * (g + cl)) = 2 * ((tn c i).b * ((tn c (i + 1)).r - (tn c i).r) * (g + cl)) := Int.mul_left_comm _ _ _
  have e2 : 1000 * (2 * g) - (tn c i).r * (2 * (g + cl)) = 2 * (1000 * g - (tn c i).r * (g + cl)) := by
    rw [Int.mul_sub, Int.mul_left_comm (tn c i).r]; omega
  have e3 : ((tn c (i + 1)).b - (tn c i).b) * (2 * (1000 * g - (tn c i).r * (g + cl))) = 2 * (((tn c (i + 1)).b - (tn c i).b) * (1000 * g - (tn c i).r * (g + cl))) := Int.mul_left_comm _ _ _
  rw [e2, e1, e3]
  omega
theorem two_und (c : List Tnt) (g cl : Int) : undI c (2 * g) (2 * cl) = 2 * undI c g cl := by
  unfold undI
  rw [two_seg, ← Int.mul_add]
  dsimp only
  exact Int.mul_left_comm _ _ _
theorem up_two {t u : Int} (hu : 1 ≤ u) : upI (2 * t) (2 * u) = upI t u := by
  have h : ∀ n, upI (2 * t) (2 * u) ≤ n ↔ upI t u ≤ n := fun n => by
    rw [upI_iff (by omega), upI_iff (by omega), Int.mul_left_comm]
    omega
  have h1 := (h _).1 (Int.le_refl _)
  have h2 := (h _).2 (Int.le_refl _)
  omega
theorem dn_two {t u : Int} (hu : 1 ≤ u) : dnI (2 * t) (2 * u) = dnI t u := by
  have h : ∀ n, n ≤ dnI (2 * t) (2 * u) ↔ n ≤ dnI t u := fun n => by
    rw [dnI_iff (by omega), dnI_iff (by omega), Int.mul_left_comm]
    omega
  have h1 := (h _).1 (Int.le_refl _)
  have h2 := (h _).2 (Int.le_refl _)
  omega
theorem twice_blk {c : List Tnt} {l : Lds} (hc : okC c) (hl : OkL l) : blk c (twiceL l) = blk c l := by
  have lg := hl.g
  have lc := hl.c
  have f1 := frac_ok hc (g := l.glo) (cl := l.chi) (by omega) (by omega) (by omega) (by omega)
  have f2 := frac_ok hc (g := l.ghi) (cl := l.clo) (by omega) (by omega) (by omega) (by omega)
  have e : recB c (twiceL l) = recB c l := by
    unfold recB twiceL
    dsimp only
    rw [two_top, two_und, two_top, two_und, up_two f1.u.1, dn_two f2.u.1]
  unfold blk srcs
  rw [e]
  rfl
theorem twice_ok {c : List Tnt} {l : Lds} (h0 : (blackR c l).2 = 0) (hx : ldB (twiceL l) = true) : blackR c (twiceL l) = (blk c l, 0) := by
  have ol := blackR_ok h0
  rw [blackR_eq, if_pos ol.oc, if_pos hx, twice_blk ol.oc ol.ol, if_pos]
  unfold blkB
  rw [twice_blk ol.oc ol.ol]
  exact decide_eq_true ol.ob.2.1
/-! ### More graphite -/
def darkL (l : Lds) (y : Nat) : Lds := { l with glo := l.glo + (y : Int), ghi := l.ghi + (y : Int) }
theorem foldl_mono (bs : List (Int × Int)) : ∀ {o o' : Int × Int}, o.1 ≤ o'.1 → o.2 ≤ o'.2 → (bs.foldl meet o).1 ≤ (bs.foldl meet o').1 ∧ (bs.foldl meet o).2 ≤ (bs.foldl meet o').2 := by
  induction bs with
  | nil => intro o o' h1 h2; exact ⟨h1, h2⟩
  | cons b bs ih =>
    intro o o' h1 h2
    exact ih (o := meet o b) (o' := meet o' b) (by unfold meet; dsimp only; omega) (by unfold meet; dsimp only; omega)
theorem dark_ok {c : List Tnt} {l : Lds} (h0 : (blackR c l).2 = 0) (y : Nat) (hx : ldB (darkL l y) = true) : (blk c l).1 ≤ (blk c (darkL l y)).1 ∧ (blk c l).2 ≤ (blk c (darkL l y)).2 := by
  have ol := blackR_ok h0
  have ox := (ldB_iff _).1 hx
  have lg := ol.ol.g
  have lc := ol.ol.c
  have xg : 1 ≤ l.glo + (y : Int) ∧ l.glo + (y : Int) ≤ l.ghi + (y : Int) ∧ l.ghi + (y : Int) ≤ 1073741824 := ox.g
  have f1 := frac_ok ol.oc (g := l.glo) (cl := l.chi) (by omega) (by omega) (by omega) (by omega)
  have f2 := frac_ok ol.oc (g := l.ghi) (cl := l.clo) (by omega) (by omega) (by omega) (by omega)
  have f3 := frac_ok ol.oc (g := l.glo + (y : Int)) (cl := l.chi) (by omega) (by omega) (by omega) (by omega)
  have f4 := frac_ok ol.oc (g := l.ghi + (y : Int)) (cl := l.clo) (by omega) (by omega) (by omega) (by omega)
  have key : ∀ {g cl : Int}, 0 ≤ g → 0 ≤ cl → g * (g + (y : Int) + cl) ≤ (g + (y : Int)) * (g + cl) := fun {g cl} h1 h2 => by
    have := Int.mul_le_mul_of_nonneg_right (show g ≤ g + (y : Int) by omega) h2
    rw [Int.mul_add g, Int.mul_add (g + (y : Int)), Int.mul_comm (g + (y : Int)) g]
    omega
  have m1 := up_mono f1.u.1 f3.u.1 (curve_mono ol.oc (g := l.glo) (cl := l.chi) (g' := l.glo + (y : Int)) (cl' := l.chi) (by omega) (by omega) (by omega) (by omega) (by omega) (by omega) (by omega) (by omega) (key (by omega) (by omega)))
  have m2 := dn_mono f2.u.1 f4.u.1 (curve_mono ol.oc (g := l.ghi) (cl := l.clo) (g' := l.ghi + (y : Int)) (cl' := l.clo) (by omega) (by omega) (by omega) (by omega) (by omega) (by omega) (by omega) (by omega) (key (by omega) (by omega)))
  unfold blk srcs meets
  rw [List.foldl_cons, List.foldl_cons]
  refine foldl_mono _ ?_ ?_
  · show max 0 (upI (topI c l.glo l.chi) (undI c l.glo l.chi) - l.tol) ≤ max 0 (upI (topI c (l.glo + (y : Int)) l.chi) (undI c (l.glo + (y : Int)) l.chi) - l.tol)
    omega
  · show min 200 (dnI (topI c l.ghi l.clo) (undI c l.ghi l.clo) + l.tol) ≤ min 200 (dnI (topI c (l.ghi + (y : Int)) l.clo) (undI c (l.ghi + (y : Int)) l.clo) + l.tol)
    omega
/-! ### Strokes in another order -/
def turnS (st : List Stk) (y g : Nat) : List Stk := (List.range g).map fun i => stk st ((i + y) % st.length)
theorem turnS_succ (st : List Stk) (y g : Nat) : turnS st y (g + 1) = turnS st y g ++ [stk st ((g + y) % st.length)] := by
  unfold turnS
  rw [List.range_succ, List.map_append]; rfl
theorem turnS_len (st : List Stk) (y g : Nat) : (turnS st y g).length = g := by simp [turnS]
theorem turnS_mem {st : List Stk} (y : Nat) {x : Stk} : x ∈ turnS st y st.length ↔ x ∈ st := by
  unfold turnS
  rw [List.mem_map]
  constructor
  · rintro ⟨i, hi, rfl⟩
    have hl := List.mem_range.1 hi
    exact stk_mem (Nat.mod_lt _ (by omega))
  · intro hx
    obtain ⟨j, hj, rfl⟩ := List.getElem_of_mem hx
    have hr := Nat.mod_lt y (show 0 < st.length by omega)
    refine ⟨(j + (st.length - y % st.length)) % st.length, List.mem_range.2 (Nat.mod_lt _ (by omega)), ?_⟩
    rw [stk_get hj]
    congr 1
    have hd := Nat.div_add_mod y st.length
    rw [Nat.mod_add_mod, show j + (st.length - y % st.length) + y = j + st.length * (y / st.length + 1) by rw [Nat.mul_add, Nat.mul_one]; omega, Nat.add_mul_mod_self_left, Nat.mod_eq_of_lt hj]
def turnedL (l : Lds) (y : Nat) : Lds := { l with st := turnS l.st y l.st.length }
theorem turned_ok {c : List Tnt} {l : Lds} (h0 : (blackR c l).2 = 0) (y : Nat) : blackR c (turnedL l y) = (blk c l, 0) := by
  have ol := blackR_ok h0
  have hx : OkL (turnedL l y) := ⟨ol.ol.g, ol.ol.c, ol.ol.t, ol.ol.s, ol.ol.w, ol.ol.m, by show (turnS _ _ _).length ≤ 6; rw [turnS_len]; exact ol.ol.n, fun x hx => ol.ol.st x ((turnS_mem y).1 hx)⟩
  have hh : ∀ n, holdsI c (turnedL l y) n ↔ holdsI c l n := fun n =>
    ⟨fun h => ⟨h.1, fun s hs => h.2 s ((turnS_mem y).2 hs)⟩, fun h => ⟨h.1, fun s hs => h.2 s ((turnS_mem y).1 hs)⟩⟩
  have k1 := (holds_iff ol.oc ol.ol (blk c l).1).2 ⟨Int.le_refl _, ol.ob.2.1⟩
  have k2 := (holds_iff ol.oc ol.ol (blk c l).2).2 ⟨ol.ob.2.1, Int.le_refl _⟩
  have k3 := (holds_iff ol.oc hx (blk c l).1).1 ⟨k1.1, (hh _).2 k1.2⟩
  have k4 := (holds_iff ol.oc hx (blk c l).2).1 ⟨k2.1, (hh _).2 k2.2⟩
  have hb : (blk c (turnedL l y)).1 ≤ (blk c (turnedL l y)).2 := by omega
  have s1 := span_in ol.oc ol.ol hx hb fun n _ _ h => (hh n).1 h
  have e : blk c (turnedL l y) = blk c l := by
    have e1 : (blk c (turnedL l y)).1 = (blk c l).1 := by omega
    have e2 : (blk c (turnedL l y)).2 = (blk c l).2 := by omega
    exact Prod.ext e1 e2
  rw [blackR_eq, if_pos ol.oc, if_pos ((ldB_iff _).2 hx), e, if_pos]
  unfold blkB
  exact decide_eq_true hb
end Go.Proofs.Ythiapodcippnoaa
