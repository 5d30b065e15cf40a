/-
  Plain laws of chapter 2: the curve never falls; a truth by remainders, and what is read of it. No program in sight.
-/
import Derived.Test.YthiapodcippnoaaSdR
import Derived.Test.YthiapodcippnoaaSdL
set_option linter.unusedVariables false
set_option linter.unusedSimpArgs false
namespace Go.Proofs.Ythiapodcippnoaa
open Go.AF
/-- The curve never falls. -/
theorem seg_mono {c : List Tnt} (h : okC c) {g cl g' cl' : Int} (hg : 1 ≤ g) (hc : 0 ≤ cl) (hg' : 1 ≤ g') (hc' : 0 ≤ cl') (hle : g * (g' + cl') ≤ g' * (g + cl)) : seg c g (g + cl) ≤ seg c g' (g' + cl') := by
  have q := seg_ok h hg hc
  have q' := seg_ok h hg' hc'
  rcases Nat.lt_or_ge (seg c g' (g' + cl')) (seg c g (g + cl)) with hlt | hge
  · exfalso
    have h1 := q.bef _ hlt
    have h2 := q'.a1
    have h3 := Int.mul_lt_mul_of_pos_right h1 (show 0 < g' + cl' by omega)
    have h4 := Int.mul_le_mul_of_nonneg_right h2 (show 0 ≤ g + cl by omega)
    have e1 : (tn c (seg c g' (g' + cl') + 1)).r * (g' + cl') * (g + cl) = (tn c (seg c g' (g' + cl') + 1)).r * (g + cl) * (g' + cl') := by rw [Int.mul_assoc, Int.mul_assoc, Int.mul_comm (g' + cl')]
    have e2 : 1000 * g * (g' + cl') = 1000 * (g * (g' + cl')) := Int.mul_assoc _ _ _
    have e3 : 1000 * g' * (g + cl) = 1000 * (g' * (g + cl)) := Int.mul_assoc _ _ _
    omega
  · exact hge
theorem curve_pl {ra R b0 B g g' a a' : Int} (hR : 0 ≤ R) (hB : 0 ≤ B) (h : g * a' ≤ g' * a) :
    (b0 * R * a + B * (1000 * g - ra * a)) * (R * a') ≤ (b0 * R * a' + B * (1000 * g' - ra * a')) * (R * a) := by
  have e : (b0 * R * a' + B * (1000 * g' - ra * a')) * (R * a) - (b0 * R * a + B * (1000 * g - ra * a)) * (R * a') = B * R * 1000 * (g' * a - g * a') := by
    simp only [Int.add_mul, Int.sub_mul, Int.mul_sub, Int.mul_add]
    have k1 : b0 * R * a' * (R * a) = b0 * R * a * (R * a') := by
      simp only [Int.mul_assoc, Int.mul_left_comm, Int.mul_comm]
    have k2 : B * (ra * a') * (R * a) = B * (ra * a) * (R * a') := by
      simp only [Int.mul_assoc, Int.mul_left_comm, Int.mul_comm]
    have k3 : B * (1000 * g') * (R * a) = B * R * 1000 * (g' * a) := by
      simp only [Int.mul_assoc, Int.mul_left_comm, Int.mul_comm]
    have k4 : B * (1000 * g) * (R * a') = B * R * 1000 * (g * a') := by
      simp only [Int.mul_assoc, Int.mul_left_comm, Int.mul_comm]
    omega
  have h2 : 0 ≤ B * R * 1000 * (g' * a - g * a') := Int.mul_nonneg (Int.mul_nonneg (Int.mul_nonneg hB hR) (by decide)) (by omega)
  omega
theorem curve_mono {c : List Tnt} (h : okC c) {g cl g' cl' : Int} (hg : 1 ≤ g) (hg2 : g ≤ 1073741824) (hc : 0 ≤ cl) (hc2 : cl ≤ 1073741824) (hg' : 1 ≤ g') (hg2' : g' ≤ 1073741824) (hc' : 0 ≤ cl') (hc2' : cl' ≤ 1073741824) (hle : g * (g' + cl') ≤ g' * (g + cl)) :
    topI c g cl * undI c g' cl' ≤ topI c g' cl' * undI c g cl := by
  have hs := seg_mono h hg hc hg' hc' hle
  have q := seg_ok h hg hc
  have q' := seg_ok h hg' hc'
  obtain ⟨i, hi⟩ : ∃ i, i = seg c g (g + cl) := ⟨_, rfl⟩
  obtain ⟨i', hi'⟩ : ∃ i', i' = seg c g' (g' + cl') := ⟨_, rfl⟩
  have w := frac_walk h hg hg2 hc hc2 hi
  have w' := frac_walk h hg' hg2' hc' hc2' hi'
  have e1 : topI c g cl = (tn c i).b * ((tn c (i + 1)).r - (tn c i).r) * (g + cl) + ((tn c (i + 1)).b - (tn c i).b) * (1000 * g - (tn c i).r * (g + cl)) := by rw [hi]; rfl
  have e2 : undI c g cl = ((tn c (i + 1)).r - (tn c i).r) * (g + cl) := by rw [hi]; rfl
  have e3 : topI c g' cl' = (tn c i').b * ((tn c (i' + 1)).r - (tn c i').r) * (g' + cl') + ((tn c (i' + 1)).b - (tn c i').b) * (1000 * g' - (tn c i').r * (g' + cl')) := by rw [hi']; rfl
  have e4 : undI c g' cl' = ((tn c (i' + 1)).r - (tn c i').r) * (g' + cl') := by rw [hi']; rfl
  rw [← hi, ← hi'] at hs
  rcases Nat.lt_or_ge i i' with hlt | hge
  · -- Different parts of the curve.
    have hi1 : i' + 1 < c.length := by rw [hi']; exact q'.lt
    have hm := (okC_mono h (show i + 1 ≤ i' by omega) (by omega)).2
    have t1 : topI c g cl ≤ (tn c (i + 1)).b * undI c g cl := by
      rw [e1, e2]
      have a0 : 1000 * g - (tn c i).r * (g + cl) ≤ ((tn c (i + 1)).r - (tn c i).r) * (g + cl) := by
        have := q.a1
        rw [← hi] at this
        rw [Int.sub_mul]
        omega
      have a1 := Int.mul_le_mul_of_nonneg_left a0 (show 0 ≤ (tn c (i + 1)).b - (tn c i).b by have := w.b; omega)
      have a2 : (tn c i).b * ((tn c (i + 1)).r - (tn c i).r) * (g + cl) = (tn c i).b * (((tn c (i + 1)).r - (tn c i).r) * (g + cl)) := Int.mul_assoc _ _ _
      have a3 : ((tn c (i + 1)).b - (tn c i).b) * (((tn c (i + 1)).r - (tn c i).r) * (g + cl)) = (tn c (i + 1)).b * (((tn c (i + 1)).r - (tn c i).r) * (g + cl)) - (tn c i).b * (((tn c (i + 1)).r - (tn c i).r) * (g + cl)) := Int.sub_mul _ _ _
      omega
    have t2 : (tn c i').b * undI c g' cl' ≤ topI c g' cl' := by
      rw [e3, e4]
      have a1 := w'.p4.1
      have a2 : (tn c i').b * ((tn c (i' + 1)).r - (tn c i').r) * (g' + cl') = (tn c i').b * (((tn c (i' + 1)).r - (tn c i').r) * (g' + cl')) := Int.mul_assoc _ _ _
      omega
    have u1 : 0 ≤ undI c g cl := by rw [e2]; have := w.p5.1; omega
    have u2 : 0 ≤ undI c g' cl' := by rw [e4]; have := w'.p5.1; omega
    have s1 := Int.mul_le_mul_of_nonneg_right t1 u2
    have s2 := Int.mul_le_mul_of_nonneg_right t2 u1
    have s3 := Int.mul_le_mul_of_nonneg_right hm (Int.mul_nonneg u1 u2)
    have e5 : (tn c (i + 1)).b * undI c g cl * undI c g' cl' = (tn c (i + 1)).b * (undI c g cl * undI c g' cl') := Int.mul_assoc _ _ _
    have e6 : (tn c i').b * undI c g' cl' * undI c g cl = (tn c i').b * (undI c g cl * undI c g' cl') := by rw [Int.mul_assoc, Int.mul_comm (undI c g' cl')]
    omega
  · obtain rfl : i' = i := by omega
    rw [e1, e2, e3, e4]
    exact curve_pl (by have := w.r; omega) (by have := w.b; omega) hle
theorem up_mono {t u t' u' : Int} (hu : 1 ≤ u) (hu' : 1 ≤ u') (h : t * u' ≤ t' * u) : upI t u ≤ upI t' u' := by
  rw [upI_iff (by omega)]
  have h1 := (upI_iff (t := t') (u := u') (n := upI t' u') (by omega)).1 (Int.le_refl _)
  have h2 := Int.mul_le_mul_of_nonneg_right h1 (show 0 ≤ u by omega)
  have h3 : t * u' ≤ upI t' u' * u * u' := by
    have : upI t' u' * u' * u = upI t' u' * u * u' := by rw [Int.mul_assoc, Int.mul_assoc, Int.mul_comm u']
    omega
  exact Int.le_of_mul_le_mul_right h3 (by omega)
theorem dn_mono {t u t' u' : Int} (hu : 1 ≤ u) (hu' : 1 ≤ u') (h : t * u' ≤ t' * u) : dnI t u ≤ dnI t' u' := by
  rw [dnI_iff (by omega)]
  have h1 := (dnI_iff (t := t) (u := u) (n := dnI t u) (by omega)).1 (Int.le_refl _)
  have h2 := Int.mul_le_mul_of_nonneg_right h1 (show 0 ≤ u' by omega)
  have h3 : dnI t u * u' * u ≤ t' * u := by
    have : dnI t u * u * u' = dnI t u * u' * u := by rw [Int.mul_assoc, Int.mul_assoc, Int.mul_comm u]
    omega
  exact Int.le_of_mul_le_mul_right h3 (by omega)
theorem up_dn {t u : Int} (hu : 1 ≤ u) : dnI t u ≤ upI t u ∧ upI t u ≤ dnI t u + 1 ∧ (t % u = 0 → upI t u = dnI t u) := by
  have h1 := (upI_iff (t := t) (u := u) (n := upI t u) (by omega)).1 (Int.le_refl _)
  have h2 := (dnI_iff (t := t) (u := u) (n := dnI t u) (by omega)).1 (Int.le_refl _)
  have a1 : dnI t u ≤ upI t u := by
    rcases Int.lt_or_le (upI t u) (dnI t u) with h | h
    · have := Int.mul_lt_mul_of_pos_right h (show 0 < u by omega)
      omega
    · exact h
  have hd : t = u * dnI t u + t % u := by unfold dnI; exact (Int.mul_ediv_add_emod t u).symm
  have hm := Int.emod_lt_of_pos t (show 0 < u by omega)
  refine ⟨a1, ?_, fun h0 => ?_⟩
  · rw [upI_iff (by omega), Int.add_mul, Int.one_mul, Int.mul_comm]
    omega
  · have : upI t u ≤ dnI t u := by
      rw [upI_iff (by omega), Int.mul_comm]
      omega
    omega
/-- A number of a span, by a remainder. -/
def pickI (lo hi : Int) (y : Nat) : Int := lo + ((y % (hi - lo + 1).toNat : Nat) : Int)
theorem pickI_B {lo hi : Int} (h : lo ≤ hi) (y : Nat) : lo ≤ pickI lo hi y ∧ pickI lo hi y ≤ hi := by
  have := Nat.mod_lt y (show 0 < (hi - lo + 1).toNat by omega)
  unfold pickI
  omega
/-- A truth, by remainders. -/
structure Tru where
  p : Int
  q : Int
  m : Int
  y : Nat
def truT (c : List Tnt) (w : Tru) : Int := topI c w.p w.q
def truU (c : List Tnt) (w : Tru) : Int := undI c w.p w.q
def truN (c : List Tnt) (w : Tru) : Int :=
  if w.m < 0 then upI (truT c w) (truU c w) + w.m else if 0 < w.m then dnI (truT c w) (truU c w) + w.m else if w.y % 2 = 0 then dnI (truT c w) (truU c w) else upI (truT c w) (truU c w)
def truB (c : List Tnt) (w : Tru) : Bool := decide (¬ (w.m = 0 ∧ truT c w % truU c w ≠ 0))
def truR (c : List Tnt) (w : Tru) : Int × Bool := if truB c w then (truN c w, decide (0 ≤ truN c w) && decide (truN c w ≤ 200)) else (0, false)
def w1 (n : Nat) : List PV := [.int .u32 (n : Int)]
def wt (l : List Nat) (i : Nat) : Nat := l.getD i 0
theorem wt_get (l : List Nat) : ∀ k (h : k < l.length), l[k] = wt l k := fun k h => by
  unfold wt
  rw [List.getD_eq_getElem?_getD, List.getElem?_eq_getElem h]; rfl
theorem wt_B {l : List Nat} (hl : ∀ x ∈ l, x ≤ 4294967295) (i : Nat) : wt l i ≤ 4294967295 := by
  rcases Nat.lt_or_ge i l.length with h | h
  · rw [← wt_get l i h]; exact hl _ (List.getElem_mem _)
  · unfold wt
    rw [List.getD_eq_getElem?_getD, List.getElem?_eq_none h]
    exact Nat.zero_le _
def truW (l : Lds) (ys : List Nat) : Tru := ⟨pickI l.glo l.ghi (wt ys 0), pickI l.clo l.chi (wt ys (ys.length - 1)), pickI (-l.tol) l.tol (wt ys (ys.length / 2)), wt ys 0⟩
theorem tru_in {c : List Tnt} {l : Lds} (hc : okC c) (hl : OkL l) {ys : List Nat} (hb : truB c (truW l ys) = true) : (recB c l).1 ≤ truN c (truW l ys) ∧ truN c (truW l ys) ≤ (recB c l).2 := by
  have lg := hl.g
  have lc := hl.c
  have lt := hl.t
  have bp := pickI_B lg.2.1 (wt ys 0)
  have bq := pickI_B lc.2.1 (wt ys (ys.length - 1))
  have bm := pickI_B (lo := -l.tol) (hi := l.tol) (by omega) (wt ys (ys.length / 2))
  obtain ⟨w, hw⟩ : ∃ w, w = truW l ys := ⟨_, rfl⟩
  have ep : w.p = pickI l.glo l.ghi (wt ys 0) := by rw [hw]; rfl
  have eq : w.q = pickI l.clo l.chi (wt ys (ys.length - 1)) := by rw [hw]; rfl
  have em : w.m = pickI (-l.tol) l.tol (wt ys (ys.length / 2)) := by rw [hw]; rfl
  rw [← hw] at hb ⊢
  rw [← ep] at bp
  rw [← eq] at bq
  rw [← em] at bm
  have f := frac_ok hc (g := w.p) (cl := w.q) (by omega) (by omega) (by omega) (by omega)
  have f1 := frac_ok hc (g := l.glo) (cl := l.chi) (by omega) (by omega) (by omega) (by omega)
  have f2 := frac_ok hc (g := l.ghi) (cl := l.clo) (by omega) (by omega) (by omega) (by omega)
  have m1 : topI c l.glo l.chi * undI c w.p w.q ≤ topI c w.p w.q * undI c l.glo l.chi := curve_mono hc (by omega) (by omega) (by omega) (by omega) (by omega) (by omega) (by omega) (by omega) (by
    have := Int.mul_le_mul (show l.glo ≤ w.p by omega) (show w.q ≤ l.chi by omega) (by omega) (by omega)
    rw [Int.mul_add, Int.mul_add, Int.mul_comm w.p l.glo]
    omega)
  have m2 : topI c w.p w.q * undI c l.ghi l.clo ≤ topI c l.ghi l.clo * undI c w.p w.q := curve_mono hc (by omega) (by omega) (by omega) (by omega) (by omega) (by omega) (by omega) (by omega) (by
    have := Int.mul_le_mul (show w.p ≤ l.ghi by omega) (show l.clo ≤ w.q by omega) (by omega) (by omega)
    rw [Int.mul_add, Int.mul_add, Int.mul_comm l.ghi w.p]
    omega)
  have n1 := up_mono f1.u.1 f.u.1 m1
  have n2 := dn_mono f.u.1 f2.u.1 m2
  have ud := up_dn (t := topI c w.p w.q) (u := undI c w.p w.q) f.u.1
  have hb2 := of_decide_eq_true hb
  unfold truT truU at hb2
  show upI (topI c l.glo l.chi) (undI c l.glo l.chi) - l.tol ≤ _ ∧ _ ≤ dnI (topI c l.ghi l.clo) (undI c l.ghi l.clo) + l.tol
  unfold truN truT truU
  split
  · omega
  · split
    · omega
    · have h0 : w.m = 0 := by omega
      have h1 := ud.2.2 (by
        rcases Int.decEq (topI c w.p w.q % undI c w.p w.q) 0 with h | h
        · exact absurd ⟨h0, h⟩ hb2
        · exact h)
      split <;> omega
/-- What is read of a blackness with a stroke. -/
def redS (n : Int) (ys : List Nat) (i : Nat) (k : Stk) : Stk :=
  ⟨max 0 (n * pickI k.plo k.phi (wt ys (i % ys.length)) / 1000 - ((wt ys 0 % 9 : Nat) : Int)), min 1000 ((n * pickI k.plo k.phi (wt ys (i % ys.length)) + 999) / 1000 + ((wt ys (ys.length - 1) % 9 : Nat) : Int)), k.plo, k.phi⟩
def redB (n : Int) (ys : List Nat) (i : Nat) (k : Stk) : Bool := decide (n * pickI k.plo k.phi (wt ys (i % ys.length)) / 1000 ≤ 1000) && decide ((n * pickI k.plo k.phi (wt ys (i % ys.length)) + 999) / 1000 ≤ 1000)
def redL (n : Int) (ys : List Nat) (st : List Stk) : Nat → List Stk
  | 0 => []
  | g + 1 => if redB n ys g (stk st g) then redL n ys st g ++ [redS n ys g (stk st g)] else redL n ys st g
theorem redL_len (n : Int) (ys : List Nat) (st : List Stk) : ∀ g, (redL n ys st g).length ≤ g
  | 0 => Nat.le_refl _
  | g + 1 => by
    have := redL_len n ys st g
    unfold redL
    split
    · rw [List.length_append]; simp; omega
    · omega
theorem redL_mem {n : Int} {ys : List Nat} {st : List Stk} {x : Stk} : ∀ {g : Nat}, x ∈ redL n ys st g → ∃ i, i < g ∧ redB n ys i (stk st i) = true ∧ x = redS n ys i (stk st i)
  | 0, h => by simp [redL] at h
  | g + 1, h => by
    unfold redL at h
    split at h
    · rename_i h0
      rcases List.mem_append.1 h with h1 | h1
      · obtain ⟨i, a, b⟩ := redL_mem h1
        exact ⟨i, by omega, b⟩
      · simp at h1
        exact ⟨g, by omega, h0, h1⟩
    · obtain ⟨i, a, b⟩ := redL_mem h
      exact ⟨i, by omega, b⟩
theorem red_ok {n : Int} (n0 : 0 ≤ n) (n1 : n ≤ 200) {k : Stk} (hk : okS k) (ys : List Nat) (i : Nat) (hb : redB n ys i k = true) : okS (redS n ys i k) ∧ (stkBd (redS n ys i k)).1 ≤ n ∧ n ≤ (stkBd (redS n ys i k)).2 := by
  unfold okS at hk
  have bp := pickI_B hk.2.2.1 (wt ys (i % ys.length))
  have hb2 : n * pickI k.plo k.phi (wt ys (i % ys.length)) / 1000 ≤ 1000 ∧ (n * pickI k.plo k.phi (wt ys (i % ys.length)) + 999) / 1000 ≤ 1000 := by
    unfold redB at hb
    simpa using hb
  unfold redS
  obtain ⟨p, hp⟩ : ∃ p, p = pickI k.plo k.phi (wt ys (i % ys.length)) := ⟨_, rfl⟩
  rw [← hp] at hb2 bp ⊢
  have hnp : 0 ≤ n * p := Int.mul_nonneg n0 (by omega)
  have h1 := Int.mul_le_mul_of_nonneg_left bp.1 n0
  have h2 := Int.mul_le_mul_of_nonneg_left bp.2 n0
  unfold okS stkBd
  dsimp only
  rw [upI_iff (by omega), dnI_iff (by omega)]
  omega
/-- The leads with strokes that read the truth. -/
def truL (l : Lds) (n : Int) (ys : List Nat) : Lds := { l with st := redL n ys l.st l.st.length }
theorem truL_ok {c : List Tnt} {l : Lds} (hc : okC c) (hl : OkL l) {ys : List Nat} (hr : (truR c (truW l ys)).2 = true) :
    OkL (truL l (truR c (truW l ys)).1 ys) ∧ ((blk c (truL l (truR c (truW l ys)).1 ys)).1 ≤ (truR c (truW l ys)).1 ∧ (truR c (truW l ys)).1 ≤ (blk c (truL l (truR c (truW l ys)).1 ys)).2) ∧ (0 ≤ (truR c (truW l ys)).1 ∧ (truR c (truW l ys)).1 ≤ 200) := by
  unfold truR at hr ⊢
  split at hr
  · rename_i hb
    rw [if_pos hb]
    obtain ⟨n, hn⟩ : ∃ n, n = truN c (truW l ys) := ⟨_, rfl⟩
    have hi := tru_in hc hl hb
    rw [← hn] at hi
    dsimp only at hr ⊢
    rw [← hn] at hr ⊢
    have hB : 0 ≤ n ∧ n ≤ 200 := by simpa using hr
    have hst : ∀ x ∈ redL n ys l.st l.st.length, okS x ∧ (stkBd x).1 ≤ n ∧ n ≤ (stkBd x).2 := fun x hx => by
      obtain ⟨i, h1, h2, rfl⟩ := redL_mem hx
      exact red_ok hB.1 hB.2 (hl.st _ (stk_mem h1)) ys i h2
    refine ⟨⟨hl.g, hl.c, hl.t, hl.s, hl.w, hl.m, Nat.le_trans (redL_len _ _ _ _) hl.n, fun x hx => (hst x hx).1⟩, ?_, hB⟩
    unfold blk
    rw [meets_iff]
    refine ⟨hB, fun b hb => ?_⟩
    unfold srcs at hb
    rcases List.mem_cons.1 hb with rfl | hb
    · exact hi
    · obtain ⟨x, hx, rfl⟩ := List.mem_map.1 hb
      exact (hst x hx).2
  · cases hr
theorem tru_black {c : List Tnt} {l : Lds} (hc : okC c) (hl : OkL l) {ys : List Nat} (hr : (truR c (truW l ys)).2 = true) : blackR c (truL l (truR c (truW l ys)).1 ys) = (blk c (truL l (truR c (truW l ys)).1 ys), 0) := by
  obtain ⟨h1, h2, h3⟩ := truL_ok hc hl hr
  rw [blackR_eq, if_pos hc, if_pos ((ldB_iff _).2 h1), if_pos]
  unfold blkB
  exact decide_eq_true (by omega)
theorem tru_hasE {c : List Tnt} {l : Lds} (hc : okC c) (hl : OkL l) {ys : List Nat} (hr : (truR c (truW l ys)).2 = true) (s : List Shd) (h : (hasR c s (truL l (truR c (truW l ys)).1 ys)).2 ≠ 0) :
    (hasR c s (truL l (truR c (truW l ys)).1 ys)).1 = [] ∧ ((hasR c s (truL l (truR c (truW l ys)).1 ys)).2 = 3 ∨ (hasR c s (truL l (truR c (truW l ys)).1 ys)).2 = 2) := by
  refine ⟨hasR_err h, ?_⟩
  have e : (hasR c s (truL l (truR c (truW l ys)).1 ys)).2 = hasE c s (truL l (truR c (truW l ys)).1 ys) := by
    unfold hasR
    split
    · rename_i h0; exact h0.symm
    · rfl
  rw [e] at h ⊢
  rw [hasE_eq, if_pos hc] at h ⊢
  split
  · exact .inl rfl
  · rename_i h8
    rw [if_neg h8] at h
    split
    · rename_i hv
      rw [if_pos hv, tru_black hc hl hr] at h
      exact absurd rfl h
    · exact .inr rfl
theorem idxs_mem {p : Nat → Bool} : ∀ {n k : Nat}, k < (idxs p n).length → ∃ i : Nat, i < n ∧ p i = true ∧ nt (idxs p n) k = (i : Int)
  | 0, k, h => by simp [idxs] at h
  | n + 1, k, h => by
    have hx : nt (idxs p (n + 1)) k ∈ idxs p (n + 1) := by rw [← nt_get h]; exact List.getElem_mem _
    have key : ∀ {m : Nat} {x : Int}, x ∈ idxs p m → ∃ i : Nat, i < m ∧ p i = true ∧ x = (i : Int) := by
      intro m
      induction m with
      | zero => intro x hx; simp [idxs] at hx
      | succ m ih =>
        intro x hx
        unfold idxs at hx
        split at hx
        · rename_i h0
          rcases List.mem_append.1 hx with h1 | h1
          · obtain ⟨i, a, b, d⟩ := ih h1; exact ⟨i, by omega, b, d⟩
          · simp at h1; exact ⟨m, by omega, h0, h1⟩
        · obtain ⟨i, a, b, d⟩ := ih hx; exact ⟨i, by omega, b, d⟩
    exact key hx
end Go.Proofs.Ythiapodcippnoaa
