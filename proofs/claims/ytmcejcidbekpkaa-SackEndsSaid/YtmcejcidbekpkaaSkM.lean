/-
  The plain law of shares, water and mixtures. No program in sight.
-/
import Derived.Test.YtmcejcidbekpkaaSkL
import Derived.Test.YtmcejcidbekpkaaSk13
set_option linter.unusedVariables false
set_option linter.unusedSimpArgs false
namespace Go.Proofs.Ytmcejcidbekpkaa
open Go.AF

theorem exists_cut (p : Nat → Bool) : ∀ n, (∀ i j, i ≤ j → j < n → p i = true → p j = true) → ∃ r, r ≤ n ∧ (∀ i, i < r → p i = false) ∧ ∀ i, r ≤ i → i < n → p i = true
  | 0, _ => ⟨0, Nat.le_refl _, fun i h => by omega, fun i _ h => by omega⟩
  | n + 1, hp => by
    obtain ⟨r, h1, h2, h3⟩ := exists_cut p n (fun i j hij hj => hp i j hij (by omega))
    cases hn : p n with
    | true =>
      refine ⟨r, by omega, h2, fun i hi hj => ?_⟩
      rcases Nat.lt_succ_iff_lt_or_eq.1 hj with h | rfl
      · exact h3 i hi h
      · exact hn
    | false =>
      refine ⟨n + 1, Nat.le_refl _, fun i hi => ?_, fun i h h' => by omega⟩
      cases hpi : p i with
      | false => rfl
      | true =>
        have := hp i n (by omega) (by omega) hpi
        rw [hn] at this; cases this

/-! ### Shares -/
def scLo (l : List Sk) (b : List Tk) : Nat → Int
  | 0 => 0
  | s + 1 => if 0 ≤ bLo l b s then (s : Int) else scLo l b s
def scHi (l : List Sk) (b : List Tk) : Nat → Int
  | 0 => 1000
  | s + 1 => if bHi l b s ≤ 0 then min (scHi l b s) s else scHi l b s
def shareR (l : List Sk) (b : List Tk) : List PV :=
  if validB l b then [.agg [.int .i64 (scLo l b 1001), .int .i64 (scHi l b 1001)], .int .i64 0] else [.agg [.int .i64 0, .int .i64 0], .int .i64 1]
theorem scLo_cut {l : List Sk} {b : List Tk} {r : Nat} (h0 : 0 < r) (h1 : ∀ i, i < r → 0 ≤ bLo l b i) : ∀ n, r ≤ n → (∀ i, r ≤ i → i < n → bLo l b i < 0) → scLo l b n = r - 1
  | 0, h, _ => by omega
  | n + 1, h, h2 => by
    simp only [scLo]
    by_cases e : r = n + 1
    · subst e
      rw [if_pos (h1 n (by omega))]; omega
    · rw [if_neg (by have := h2 n (by omega) (by omega); omega)]
      exact scLo_cut h0 h1 n (by omega) (fun i hi hj => h2 i hi (by omega))
theorem scHi_cut {l : List Sk} {b : List Tk} {r : Nat} (hr : r ≤ 1000) (h1 : ∀ i, i < r → 0 < bHi l b i) (h2 : ∀ i, r ≤ i → i < 1000 → bHi l b i ≤ 0) : scHi l b 1001 = r := by
  have g1 : ∀ n, n ≤ r → scHi l b n = 1000 := by
    intro n
    induction n with
    | zero => intro _; rfl
    | succ n ih =>
      intro hn
      simp only [scHi]
      rw [if_neg (by have := h1 n (by omega); omega)]
      exact ih (by omega)
  have g2 : ∀ n, n ≤ 1000 → r < n → scHi l b n = r := by
    intro n
    induction n with
    | zero => intro _ h; omega
    | succ n ih =>
      intro hn hr'
      simp only [scHi]
      rw [if_pos (h2 n (by omega) (by omega))]
      by_cases e : r = n
      · subst e; rw [g1 r (Nat.le_refl _)]; omega
      · rw [ih (by omega) (by omega)]; omega
  have e1000 : scHi l b 1000 = r := by
    by_cases e : r = 1000
    · rw [g1 1000 (by omega)]; omega
    · exact g2 1000 (by omega) (by omega)
  show (if bHi l b (1000 : Nat) ≤ 0 then min (scHi l b 1000) ((1000 : Nat) : Int) else scHi l b 1000) = r
  rw [e1000]
  split <;> omega
theorem bLo_zero {l : List Sk} {b : List Tk} (hl : okL l) (hb : okB b) : 0 ≤ bLo l b 0 := by
  have h : isum (fun _ => 0) l.length ≤ bLo l b 0 := isum_mono _ fun i hi => by
    rw [beyLo_c]
    have h1 := cLo_mono (f := fun _ _ _ => 0) (g := overF 0) (s := l[i]?.getD zeroSk) (lo := wLo b i) (hi := wHi b i) ⟨(wB hb i).1.1, wLe hb i⟩ (fun k => by
      have := coalFB ((hl.get hi).corner k)
      simp only [overF]; omega)
    have h2 : cLo (fun _ _ _ => 0) (l[i]?.getD zeroSk) (wLo b i) (wHi b i) = 0 := by
      unfold cLo
      simp only [Int.mul_zero, Int.min_self]
      exact mnF_const 0 8 (by omega)
    omega
  rw [isum_zero _ (fun _ _ => rfl)] at h
  exact h
theorem bB {l : List Sk} {b : List Tk} {n : Int} (hl : okL l) (hb : okB b) (hn : 0 ≤ n ∧ n ≤ 1000) : (-6400000000000000000 ≤ bLo l b n ∧ bLo l b n ≤ 6400000000000000000) ∧ (-6400000000000000000 ≤ bHi l b n ∧ bHi l b n ≤ 6400000000000000000) := by
  have h := fun i (hi : i < l.length) => beyB (l := l) (b := b) (n := n) hb hn hi (hl.2 l[i] (List.getElem_mem _))
  have p1 := isum_B (f := beyLo l b n) (A := -800000000000000000) (B := 800000000000000000) l.length (fun j hj => (h j hj).1)
  have p2 := isum_B (f := beyHi l b n) (A := -800000000000000000) (B := 800000000000000000) l.length (fun j hj => (h j hj).2)
  have := hl.1
  unfold bLo bHi
  omega
theorem share_cuts {l : List Sk} {b : List Tk} (hl : okL l) (hb : okB b) : ∃ r q : Nat, (r ≤ 1001 ∧ (∀ i, i < r → decide (bLo l b (i : Nat) < 0) = false) ∧ (∀ i, r ≤ i → i < 1001 → decide (bLo l b (i : Nat) < 0) = true)) ∧
    (q ≤ 1000 ∧ (∀ i, i < q → decide (bHi l b (i : Nat) ≤ 0) = false) ∧ (∀ i, q ≤ i → i < 1000 → decide (bHi l b (i : Nat) ≤ 0) = true)) ∧ scLo l b 1001 = r - 1 ∧ scHi l b 1001 = q := by
  obtain ⟨r, h1, h2, h3⟩ := exists_cut (fun i => decide (bLo l b (i : Nat) < 0)) 1001 (fun i j hij _ h => by
    simp only [decide_eq_true_eq] at h ⊢
    have := bLo_anti hl hb (m := (i : Int)) (n := (j : Int)) (by omega)
    omega)
  obtain ⟨q, k1, k2, k3⟩ := exists_cut (fun i => decide (bHi l b (i : Nat) ≤ 0)) 1000 (fun i j hij _ h => by
    simp only [decide_eq_true_eq] at h ⊢
    have := bHi_anti hl hb (m := (i : Int)) (n := (j : Int)) (by omega)
    omega)
  refine ⟨r, q, ⟨h1, h2, h3⟩, ⟨k1, k2, k3⟩, scLo_cut ?_ (fun i hi => ?_) 1001 h1 (fun i hi hj => by simpa using h3 i hi hj), scHi_cut k1 (fun i hi => ?_) (fun i hi hj => by simpa using k3 i hi hj)⟩
  · rcases Nat.eq_zero_or_pos r with h | h
    · subst h
      have := h3 0 (Nat.le_refl _) (by omega)
      have h0 := bLo_zero hl hb
      simp at this
      omega
    · exact h
  · have := h2 i hi
    simp at this
    exact this
  · have := k2 i hi
    simp at this
    omega

/-! ### Water -/
def kLo (l : List Sk) (b : List Tk) (n : Int) : Int := isum (lackLo l b n) l.length
def kHi (l : List Sk) (b : List Tk) (n : Int) : Int := isum (lackHi l b n) l.length
theorem kB {l : List Sk} {b : List Tk} {n : Int} (hl : okL l) (hb : okB b) (hn : 0 ≤ n ∧ n ≤ 1000) : (-6400000000 ≤ kLo l b n ∧ kLo l b n ≤ 6400000000) ∧ (-6400000000 ≤ kHi l b n ∧ kHi l b n ≤ 6400000000) := by
  have h := fun i (hi : i < l.length) => lackB (l := l) (b := b) (n := n) hb hn hi (hl.2 l[i] (List.getElem_mem _))
  have p1 := isum_B (f := lackLo l b n) (A := -800000000) (B := 800000000) l.length (fun j hj => (h j hj).1)
  have p2 := isum_B (f := lackHi l b n) (A := -800000000) (B := 800000000) l.length (fun j hj => (h j hj).2)
  have := hl.1
  unfold kLo kHi
  omega
def waterLo (l : List Sk) (b : List Tk) (w : Sp) : Int := max 0 (0 - (0 - kHi l b w.lo) / (1000 - w.lo))
def waterHi (l : List Sk) (b : List Tk) (w : Sp) : Int := min 1073741824 (kLo l b w.hi / (1000 - w.hi))
def noSpan (e : Int) : List PV := [.agg [.int .i64 0, .int .i64 0], .int .i64 e]
def waterR (l : List Sk) (b : List Tk) (w : Sp) : List PV :=
  if validB l b then (if w.ok 0 999 then (if waterHi l b w < waterLo l b w then noSpan 4 else [.agg [.int .i64 (waterLo l b w), .int .i64 (waterHi l b w)], .int .i64 0]) else noSpan 2) else noSpan 1
theorem partS {l : List Sk} {b : List Tk} (hl : okL l) (hb : okB b) (kd : Int) : (0 ≤ isum (partLo kd l b) l.length ∧ isum (partLo kd l b) l.length ≤ 12800000000000000) ∧ (0 ≤ isum (partHi kd l b) l.length ∧ isum (partHi kd l b) l.length ≤ 12800000000000000) := by
  have h := fun i (hi : i < l.length) => partB (l := l) (b := b) (kd := kd) hb hi (hl.2 l[i] (List.getElem_mem _))
  have p1 := isum_B (f := partLo kd l b) (A := 0) (B := 1600000000000000) l.length (fun j hj => (h j hj).1)
  have p2 := isum_B (f := partHi kd l b) (A := 0) (B := 1600000000000000) l.length (fun j hj => (h j hj).2)
  have := hl.1
  omega

/-! ### Mixtures -/
def b2 (i j : Int) (t n : Int) : List Tk := [⟨i, ⟨n, n⟩⟩, ⟨j, ⟨t - n, t - n⟩⟩]
def mixOk (l : List Sk) (i j t : Int) (w : Sp) (n : Nat) : Bool := decide (0 ≤ bLo l (b2 i j t n) w.lo) && decide (bHi l (b2 i j t n) w.hi ≤ 0)
def mixS (ok : Nat → Bool) : Nat → Option (Int × Int)
  | 0 => none
  | n + 1 => if ok (n + 1) then some (((mixS ok n).map (·.1)).getD ((n : Int) + 1), (n : Int) + 1) else mixS ok n
def mixGood (l : List Sk) (i j t : Int) (w : Sp) : Bool :=
  (decide (0 ≤ i) && decide (i ≤ (l.length : Int) - 1)) && (decide (0 ≤ j) && decide (j ≤ (l.length : Int) - 1)) && !decide (i = j) && (decide (2 ≤ t) && decide (t ≤ 100000)) && w.ok 0 1000
def mixV : Option (Int × Int) → List PV
  | none => noSpan 4
  | some (a, c) => [.agg [.int .i64 a, .int .i64 c], .int .i64 0]
def mixR (l : List Sk) (i j t : Int) (w : Sp) : List PV :=
  if areSacksB l then (if mixGood l i j t w then mixV (mixS (mixOk l i j t w) (t - 1).toNat) else noSpan 2) else noSpan 1
theorem mixS_none {ok : Nat → Bool} : ∀ n, (∀ k, 1 ≤ k → k ≤ n → ok k = false) → mixS ok n = none
  | 0, _ => rfl
  | n + 1, h => by
    simp only [mixS]
    rw [h (n + 1) (by omega) (by omega)]
    exact mixS_none n (fun k h1 h2 => h k h1 (by omega))
theorem mixS_iv {ok : Nat → Bool} {a c : Nat} (ha : 1 ≤ a) (hac : a ≤ c) : ∀ n, c ≤ n → (∀ k, 1 ≤ k → k ≤ n → (ok k = true ↔ a ≤ k ∧ k ≤ c)) → mixS ok n = some ((a : Int), (c : Int))
  | 0, h, _ => by omega
  | n + 1, h, hk => by
    simp only [mixS]
    by_cases e : c = n + 1
    · subst e
      rw [if_pos ((hk (n + 1) (by omega) (by omega)).2 ⟨hac, Nat.le_refl _⟩)]
      by_cases e2 : a = n + 1
      · subst e2
        rw [mixS_none n (fun k h1 h2 => by
          cases hok : ok k with
          | false => rfl
          | true => have := (hk k h1 (by omega)).1 hok; omega)]
        simp
      · rw [mixS_iv (ok := ok) (a := a) (c := n) ha (by omega) n (Nat.le_refl _) (fun k h1 h2 => by rw [hk k h1 (by omega)]; omega)]
        simp
    · have hf : ok (n + 1) = false := by
        cases hok : ok (n + 1) with
        | false => rfl
        | true => have := (hk (n + 1) (by omega) (by omega)).1 hok; omega
      rw [hf]
      exact mixS_iv ha hac n (by omega) (fun k h1 h2 => hk k h1 (by omega))

/-- A corner's least and greatest. -/
def fLo (f : Int → Int → Int → Int) (s : Sk) : Int := mnF (fun k => f (s.cw k) (s.cc k) (s.cl k)) 8
def fHi (f : Int → Int → Int → Int) (s : Sk) : Int := mxF (fun k => f (s.cw k) (s.cc k) (s.cl k)) 8
theorem mnF_scale {f : Nat → Int} {n : Int} (hn : 0 ≤ n) : ∀ k, mnF (fun j => n * f j) k = n * mnF f k
  | 0 => by simp [mnF]
  | k + 1 => by
    simp only [mnF]
    split
    · rfl
    · rw [mnF_scale hn k]
      rcases Int.le_total (mnF f k) (f k) with h | h
      · rw [Int.min_eq_left h, Int.min_eq_left (Int.mul_le_mul_of_nonneg_left h hn)]
      · rw [Int.min_eq_right h, Int.min_eq_right (Int.mul_le_mul_of_nonneg_left h hn)]
theorem mxF_scale {f : Nat → Int} {n : Int} (hn : 0 ≤ n) : ∀ k, mxF (fun j => n * f j) k = n * mxF f k
  | 0 => by simp [mxF]
  | k + 1 => by
    simp only [mxF]
    split
    · rfl
    · rw [mxF_scale hn k]
      rcases Int.le_total (mxF f k) (f k) with h | h
      · rw [Int.max_eq_right h, Int.max_eq_right (Int.mul_le_mul_of_nonneg_left h hn)]
      · rw [Int.max_eq_left h, Int.max_eq_left (Int.mul_le_mul_of_nonneg_left h hn)]
theorem cLo_one {f : Int → Int → Int → Int} {s : Sk} {n : Int} (hn : 0 ≤ n) : cLo f s n n = n * fLo f s := by
  unfold cLo fLo
  simp only [Int.min_self]
  exact mnF_scale hn 8
theorem cHi_one {f : Int → Int → Int → Int} {s : Sk} {n : Int} (hn : 0 ≤ n) : cHi f s n n = n * fHi f s := by
  unfold cHi fHi
  simp only [Int.max_self]
  exact mxF_scale hn 8
theorem okB2 {i j t n : Int} (h1 : 0 ≤ n) (h2 : n ≤ t) (h3 : t ≤ 100000) : okB (b2 i j t n) := by
  refine ⟨by simp [b2], fun x hx => ?_⟩
  simp [b2] at hx
  rcases hx with rfl | rfl <;> dsimp only <;> omega
theorem okT2 {k : Nat} {i j t n : Int} (h1 : 0 ≤ i ∧ i < k) (h2 : 0 ≤ j ∧ j < k) : okT k (b2 i j t n) := by
  intro x hx
  simp [b2] at hx
  rcases hx with rfl | rfl <;> dsimp only <;> omega
/-- The batch of a mixture, as the program makes it. -/
def ofM (s1 s2 : Sk) (t n : Int) : List (Int × (Sk × Sp)) := mset 1 (s2, ⟨t - n, t - n⟩) (mset 0 (s1, ⟨n, n⟩) [])
theorem ofM_eq (s1 s2 : Sk) (t n : Int) : ofM s1 s2 t n = [(0, (s1, ⟨n, n⟩)), (1, (s2, ⟨t - n, t - n⟩))] := rfl
theorem buildM_b2 {l : List Sk} {i j t n : Int} (hne : i ≠ j) : buildM l (b2 i j t n) (b2 i j t n).length = [(i, (l[i.toNat]?.getD zeroSk, ⟨0 + n, 0 + n⟩)), (j, (l[j.toNat]?.getD zeroSk, ⟨0 + (t - n), 0 + (t - n)⟩))] := by
  have e : j ≠ i := fun h => hne h.symm
  simp [buildM, b2, buildStep, mset, mget, zeroSt, e]
theorem bLo_b2 {l : List Sk} {i j t n : Int} (hi : 0 ≤ i ∧ i < l.length) (hj : 0 ≤ j ∧ j < l.length) (hne : i ≠ j) (hn : 0 ≤ n) (ht : n ≤ t) (x : Int) :
    bLo l (b2 i j t n) x = n * fLo (overF x) (l[i.toNat]?.getD zeroSk) + (t - n) * fLo (overF x) (l[j.toNat]?.getD zeroSk) := by
  have h := buildM_sum (okT2 (t := t) (n := n) hi hj) (cLo (overF x)) (cLo_zero _) (b2 i j t n).length (Nat.le_refl _)
  rw [buildM_b2 hne] at h
  have e : bLo l (b2 i j t n) x = isum (fun k => cLo (overF x) (l[k]?.getD zeroSk) (psum (loK (k : Int)) (b2 i j t n) (b2 i j t n).length) (psum (hiK (k : Int)) (b2 i j t n) (b2 i j t n).length)) l.length := rfl
  rw [e, ← h]
  simp only [List.map_cons, List.map_nil, List.sum_cons, List.sum_nil, Int.zero_add, Int.add_zero]
  rw [cLo_one hn, cLo_one (by omega)]
theorem bHi_b2 {l : List Sk} {i j t n : Int} (hi : 0 ≤ i ∧ i < l.length) (hj : 0 ≤ j ∧ j < l.length) (hne : i ≠ j) (hn : 0 ≤ n) (ht : n ≤ t) (x : Int) :
    bHi l (b2 i j t n) x = n * fHi (overF x) (l[i.toNat]?.getD zeroSk) + (t - n) * fHi (overF x) (l[j.toNat]?.getD zeroSk) := by
  have h := buildM_sum (okT2 (t := t) (n := n) hi hj) (cHi (overF x)) (cHi_zero _) (b2 i j t n).length (Nat.le_refl _)
  rw [buildM_b2 hne] at h
  have e : bHi l (b2 i j t n) x = isum (fun k => cHi (overF x) (l[k]?.getD zeroSk) (psum (loK (k : Int)) (b2 i j t n) (b2 i j t n).length) (psum (hiK (k : Int)) (b2 i j t n) (b2 i j t n).length)) l.length := rfl
  rw [e, ← h]
  simp only [List.map_cons, List.map_nil, List.sum_cons, List.sum_nil, Int.zero_add, Int.add_zero]
  rw [cHi_one hn, cHi_one (by omega)]
theorem ofM_lo (s1 s2 : Sk) (t n : Int) (hn : 0 ≤ n) (ht : n ≤ t) (f : Int → Int → Int → Int) : ((ofM s1 s2 t n).map (lowS (stF f))).sum = n * fLo f s1 + (t - n) * fLo f s2 := by
  rw [ofM_eq]
  simp only [List.map_cons, List.map_nil, List.sum_cons, List.sum_nil, Int.add_zero, lowS_c]
  rw [cLo_one hn, cLo_one (by omega)]
theorem ofM_hi (s1 s2 : Sk) (t n : Int) (hn : 0 ≤ n) (ht : n ≤ t) (f : Int → Int → Int → Int) : ((ofM s1 s2 t n).map (highS (stF f))).sum = n * fHi f s1 + (t - n) * fHi f s2 := by
  rw [ofM_eq]
  simp only [List.map_cons, List.map_nil, List.sum_cons, List.sum_nil, Int.add_zero, highS_c]
  rw [cHi_one hn, cHi_one (by omega)]
theorem ofM_ok {s1 s2 : Sk} (h1 : okSk s1) (h2 : okSk s2) {t n : Int} (hn : 0 ≤ n) (ht : n ≤ t) (h3 : t ≤ 100000) : okM (ofM s1 s2 t n) := by
  rw [ofM_eq]
  refine ⟨fun m hm => ?_, ?_, fun m hm => ?_⟩
  · simp at hm; rcases hm with rfl | rfl <;> dsimp only <;> omega
  · simp [hiS]; omega
  · simp at hm; rcases hm with rfl | rfl <;> assumption
/-- By how much a mixture is within what is wanted. -/
def marg (s1 s2 : Sk) (t : Int) (w : Sp) (n : Int) : Int := min (n * fLo (overF w.lo) s1 + (t - n) * fLo (overF w.lo) s2) (0 - (n * fHi (overF w.hi) s1 + (t - n) * fHi (overF w.hi) s2))
theorem mixOk_marg {l : List Sk} {i j t : Int} {w : Sp} (hi : 0 ≤ i ∧ i < l.length) (hj : 0 ≤ j ∧ j < l.length) (hne : i ≠ j) {n : Nat} (ht : (n : Int) ≤ t) :
    mixOk l i j t w n = decide (0 ≤ marg (l[i.toNat]?.getD zeroSk) (l[j.toNat]?.getD zeroSk) t w n) := by
  unfold mixOk marg
  rw [bLo_b2 hi hj hne (by omega) ht, bHi_b2 hi hj hne (by omega) ht]
  generalize (n : Int) * fLo (overF w.lo) (l[i.toNat]?.getD zeroSk) + (t - n) * fLo (overF w.lo) (l[j.toNat]?.getD zeroSk) = X
  generalize (n : Int) * fHi (overF w.hi) (l[i.toNat]?.getD zeroSk) + (t - n) * fHi (overF w.hi) (l[j.toNat]?.getD zeroSk) = Y
  rw [← Bool.decide_and]
  congr 1
  exact propext ⟨fun h => by omega, fun h => by omega⟩
theorem lin_eq (a b t n : Int) : n * a + (t - n) * b = t * b + n * (a - b) := by
  rw [Int.sub_mul, Int.mul_sub]; omega
/-- It rises, and then falls. -/
theorem marg_step (s1 s2 : Sk) (t : Int) (w : Sp) (n : Int) (h : marg s1 s2 t w (n + 1) ≤ marg s1 s2 t w n) : marg s1 s2 t w (n + 2) ≤ marg s1 s2 t w (n + 1) := by
  unfold marg at h ⊢
  simp only [lin_eq] at h ⊢
  generalize fLo (overF w.lo) s1 - fLo (overF w.lo) s2 = A at h ⊢
  generalize t * fLo (overF w.lo) s2 = B at h ⊢
  generalize fHi (overF w.hi) s1 - fHi (overF w.hi) s2 = C at h ⊢
  generalize t * fHi (overF w.hi) s2 = D at h ⊢
  have e1 : (n + 1) * A = n * A + A := by rw [Int.add_mul, Int.one_mul]
  have e2 : (n + 2) * A = n * A + 2 * A := by rw [Int.add_mul]
  have e3 : (n + 1) * C = n * C + C := by rw [Int.add_mul, Int.one_mul]
  have e4 : (n + 2) * C = n * C + 2 * C := by rw [Int.add_mul]
  rw [e1, e3] at h
  rw [e1, e2, e3, e4]
  omega
theorem marg_fall (s1 s2 : Sk) (t : Int) (w : Sp) {n : Int} (h : marg s1 s2 t w (n + 1) ≤ marg s1 s2 t w n) : ∀ k : Nat, marg s1 s2 t w (n + k + 1) ≤ marg s1 s2 t w (n + k)
  | 0 => by simpa using h
  | k + 1 => by
    have := marg_step s1 s2 t w (n + k) (marg_fall s1 s2 t w h k)
    have e1 : n + ((k + 1 : Nat) : Int) + 1 = n + k + 2 := by omega
    have e2 : n + ((k + 1 : Nat) : Int) = n + k + 1 := by omega
    rw [e1, e2]; exact this
theorem marg_down (s1 s2 : Sk) (t : Int) (w : Sp) {n : Int} (h : marg s1 s2 t w (n + 1) ≤ marg s1 s2 t w n) : ∀ (k j : Nat), k ≤ j → marg s1 s2 t w (n + j) ≤ marg s1 s2 t w (n + k)
  | k, 0, hk => by obtain rfl : k = 0 := by omega
                   exact Int.le_refl _
  | k, j + 1, hk => by
    rcases Nat.lt_or_ge j k with h1 | h1
    · obtain rfl : k = j + 1 := by omega
      exact Int.le_refl _
    · have h2 := marg_down s1 s2 t w h k j h1
      have h3 := marg_fall s1 s2 t w h j
      have e : n + ((j + 1 : Nat) : Int) = n + j + 1 := by omega
      rw [e]; omega
theorem fLo_B {x : Int} {s : Sk} (hx : 0 ≤ x ∧ x ≤ 1000) (hs : okSk s) : -1000000000000 ≤ fLo (overF x) s ∧ fLo (overF x) s ≤ 1000000000000 := mnF_B 8 (by omega) (fun k _ => overB2 hx (hs.corner k))
theorem fHi_B {x : Int} {s : Sk} (hx : 0 ≤ x ∧ x ≤ 1000) (hs : okSk s) : -1000000000000 ≤ fHi (overF x) s ∧ fHi (overF x) s ≤ 1000000000000 := mxF_B 8 (by omega) (fun k _ => overB2 hx (hs.corner k))
theorem lin_B {a b t n : Int} (ha : -1000000000000 ≤ a ∧ a ≤ 1000000000000) (hb : -1000000000000 ≤ b ∧ b ≤ 1000000000000) (hn : 0 ≤ n) (ht : n ≤ t) (h3 : t ≤ 100000) : -200000000000000000 ≤ n * a + (t - n) * b ∧ n * a + (t - n) * b ≤ 200000000000000000 := by
  have h1 := mulA (a := a) (A := 1000000000000) (b := n) (B := 100000) ha ⟨hn, by omega⟩
  have h2 := mulA (a := b) (A := 1000000000000) (b := t - n) (B := 100000) hb ⟨by omega, by omega⟩
  omega
/-- The three searches of a mixture, and what comes of them. -/
structure MixCuts (M : Int → Int) (t : Nat) (r : Nat) : Prop where
  r_le : r ≤ t - 2
  r_lo : ∀ i, i < r → decide (M ((i : Int) + 2) ≤ M ((i : Int) + 1)) = false
  r_hi : ∀ i, r ≤ i → i < t - 2 → decide (M ((i : Int) + 2) ≤ M ((i : Int) + 1)) = true
theorem mix_cut (s1 s2 : Sk) (w : Sp) (t : Nat) (ht : 2 ≤ t) : ∃ r, MixCuts (marg s1 s2 t w) t r := by
  obtain ⟨r, h1, h2, h3⟩ := exists_cut (fun i => decide (marg s1 s2 t w ((i : Nat) + 2) ≤ marg s1 s2 t w ((i : Nat) + 1))) (t - 2) (fun i j hij _ h => by
    simp only [decide_eq_true_eq] at h ⊢
    have e : ((i : Int) + 2) = (i + 1) + 1 := by omega
    rw [e] at h
    have := marg_fall s1 s2 t w h (j - i)
    have e1 : ((i : Int) + 1) + ((j - i : Nat) : Int) = j + 1 := by omega
    rw [e1] at this
    have e2 : (j : Int) + 1 + 1 = j + 2 := by omega
    rw [e2] at this
    exact this)
  exact ⟨r, h1, h2, h3⟩
theorem MixCuts.up {s1 s2 : Sk} {w : Sp} {t r : Nat} (h : MixCuts (marg s1 s2 t w) t r) : ∀ (k j : Nat), k ≤ j → j ≤ r → marg s1 s2 t w ((k : Int) + 1) ≤ marg s1 s2 t w ((j : Int) + 1)
  | k, 0, hk, _ => by obtain rfl : k = 0 := by omega
                      exact Int.le_refl _
  | k, j + 1, hk, hj => by
    rcases Nat.lt_or_ge j k with h1 | h1
    · obtain rfl : k = j + 1 := by omega
      exact Int.le_refl _
    · have h2 := h.up k j h1 (by omega)
      have h3 := h.r_lo j (by omega)
      simp at h3
      have e : ((j + 1 : Nat) : Int) + 1 = j + 2 := by omega
      rw [e]; omega
theorem MixCuts.down {s1 s2 : Sk} {w : Sp} {t r : Nat} (ht : 2 ≤ t) (h : MixCuts (marg s1 s2 t w) t r) (k j : Nat) (hk : r ≤ k) (hkj : k ≤ j) (hj : j + 1 < t) : marg s1 s2 t w ((j : Int) + 1) ≤ marg s1 s2 t w ((k : Int) + 1) := by
  rcases Nat.lt_or_ge k j with h1 | h1
  · have h3 := h.r_hi k hk (by omega)
    simp at h3
    have := marg_down s1 s2 t w (n := (k : Int) + 1) (by have e : (k : Int) + 1 + 1 = k + 2 := by omega
                                                         rw [e]; exact h3) 0 (j - k) (by omega)
    have e1 : (k : Int) + 1 + ((j - k : Nat) : Int) = j + 1 := by omega
    rw [e1] at this
    simpa using this
  · obtain rfl : k = j := by omega
    exact Int.le_refl _
theorem mix_low {s1 s2 : Sk} {w : Sp} {t r : Nat} (h : MixCuts (marg s1 s2 t w) t r) : ∃ p, p ≤ r ∧ (∀ i, i < p → decide (0 ≤ marg s1 s2 t w ((i : Int) + 1)) = false) ∧ ∀ i, p ≤ i → i < r → decide (0 ≤ marg s1 s2 t w ((i : Int) + 1)) = true :=
  exists_cut (fun i => decide (0 ≤ marg s1 s2 t w ((i : Nat) + 1))) r (fun i j hij hj hp => by
    simp only [decide_eq_true_eq] at hp ⊢
    have := h.up i j hij (by omega)
    omega)
theorem mix_high {s1 s2 : Sk} {w : Sp} {t r : Nat} (ht : 2 ≤ t) (h : MixCuts (marg s1 s2 t w) t r) : ∃ q, q ≤ t - 2 - r ∧ (∀ i, i < q → decide (marg s1 s2 t w ((r : Int) + 2 + i) < 0) = false) ∧ ∀ i, q ≤ i → i < t - 2 - r → decide (marg s1 s2 t w ((r : Int) + 2 + i) < 0) = true :=
  exists_cut (fun i => decide (marg s1 s2 t w ((r : Int) + 2 + (i : Nat)) < 0)) (t - 2 - r) (fun i j hij hj hp => by
    simp only [decide_eq_true_eq] at hp ⊢
    have := h.down ht (r + 1 + i) (r + 1 + j) (by omega) (by omega) (by have := h.r_le; omega)
    have e1 : ((r + 1 + i : Nat) : Int) + 1 = (r : Int) + 2 + i := by omega
    have e2 : ((r + 1 + j : Nat) : Int) + 1 = (r : Int) + 2 + j := by omega
    rw [e1, e2] at this
    omega)
theorem mix_none {s1 s2 : Sk} {w : Sp} {t r : Nat} (ht : 2 ≤ t) (h : MixCuts (marg s1 s2 t w) t r) (h0 : marg s1 s2 t w ((r : Int) + 1) < 0) : mixS (fun n => decide (0 ≤ marg s1 s2 t w n)) (t - 1) = none := by
  refine mixS_none _ fun k h1 h2 => ?_
  obtain ⟨k, rfl⟩ : ∃ k', k = k' + 1 := ⟨k - 1, by omega⟩
  have e : ((k + 1 : Nat) : Int) = k + 1 := by omega
  simp only [e, decide_eq_false_iff_not]
  rcases Nat.le_total k r with h3 | h3
  · have := h.up k r h3 (Nat.le_refl _); omega
  · have := h.down ht r k (Nat.le_refl _) h3 (by omega); omega
theorem mix_some {s1 s2 : Sk} {w : Sp} {t r p q : Nat} (ht : 2 ≤ t) (h : MixCuts (marg s1 s2 t w) t r) (h0 : 0 ≤ marg s1 s2 t w ((r : Int) + 1))
    (p0 : p ≤ r) (p1 : ∀ i, i < p → decide (0 ≤ marg s1 s2 t w ((i : Int) + 1)) = false) (p2 : ∀ i, p ≤ i → i < r → decide (0 ≤ marg s1 s2 t w ((i : Int) + 1)) = true)
    (q0 : q ≤ t - 2 - r) (q1 : ∀ i, i < q → decide (marg s1 s2 t w ((r : Int) + 2 + i) < 0) = false) (q2 : ∀ i, q ≤ i → i < t - 2 - r → decide (marg s1 s2 t w ((r : Int) + 2 + i) < 0) = true) :
    mixS (fun n => decide (0 ≤ marg s1 s2 t w n)) (t - 1) = some (1 + (p : Int), 1 + (r : Int) + q) := by
  have hr := h.r_le
  have := mixS_iv (ok := fun n : Nat => decide (0 ≤ marg s1 s2 t w n)) (a := 1 + p) (c := 1 + r + q) (by omega) (by omega) (t - 1) (by omega) (fun k h1 h2 => by
    obtain ⟨k, rfl⟩ : ∃ k', k = k' + 1 := ⟨k - 1, by omega⟩
    have e : ((k + 1 : Nat) : Int) = k + 1 := by omega
    simp only [e, decide_eq_true_eq]
    rcases Nat.lt_or_ge k p with h3 | h3
    · have := p1 k h3
      simp at this
      constructor
      · intro h4; omega
      · intro h4; omega
    · rcases Nat.lt_or_ge k r with h4 | h4
      · have := p2 k h3 h4
        simp at this
        constructor
        · intro _; omega
        · intro _; omega
      · rcases Nat.lt_or_ge r k with h5 | h5
        · have e2 : (k : Int) + 1 = (r : Int) + 2 + ((k - r - 1 : Nat) : Int) := by omega
          rcases Nat.lt_or_ge (k - r - 1) q with h6 | h6
          · have := q1 _ h6
            simp at this
            rw [← e2] at this
            constructor
            · intro _; omega
            · intro _; omega
          · have := q2 _ h6 (by omega)
            simp at this
            rw [← e2] at this
            constructor
            · intro _; omega
            · intro _; omega
        · obtain rfl : k = r := by omega
          constructor
          · intro _; omega
          · intro _; omega)
  rw [this]
  simp
theorem mixS_congr {f g : Nat → Bool} : ∀ n, (∀ k, 1 ≤ k → k ≤ n → f k = g k) → mixS f n = mixS g n
  | 0, _ => rfl
  | n + 1, h => by simp only [mixS]; rw [h (n + 1) (by omega) (by omega), mixS_congr n (fun k h1 h2 => h k h1 (by omega))]
theorem mixR_of {l : List Sk} {i j : Int} {tn : Nat} {w : Sp} (hA : areSacksB l = true) (hg : mixGood l i j (tn : Int) w = true) (hi : 0 ≤ i ∧ i < l.length) (hj : 0 ≤ j ∧ j < l.length) (hne : i ≠ j) (hi' : i.toNat < l.length) (hj' : j.toNat < l.length) {o : Option (Int × Int)}
    (h : mixS (fun n : Nat => decide (0 ≤ marg l[i.toNat] l[j.toNat] tn w n)) (tn - 1) = o) : mixR l i j tn w = mixV o := by
  have e1 : l[i.toNat]?.getD zeroSk = l[i.toNat] := by rw [List.getElem?_eq_getElem hi', Option.getD_some]
  have e2 : l[j.toNat]?.getD zeroSk = l[j.toNat] := by rw [List.getElem?_eq_getElem hj', Option.getD_some]
  have et : ((tn : Int) - 1).toNat = tn - 1 := by omega
  have h2 : mixS (mixOk l i j tn w) (tn - 1) = o := by
    rw [← h]
    refine mixS_congr _ fun k h1 h2 => ?_
    rw [mixOk_marg hi hj hne (by omega), e1, e2]
  unfold mixR
  rw [if_pos hA, if_pos hg, et, h2]
theorem okL_len {l : List Sk} (h : areSacksB l = true) : okL l := okL_of h
/-! ### Results, number by number -/
def wL (l : List Sk) (b : List Tk) (kd : Int) : Int := if validB l b then isum (partLo kd l b) l.length / 1000000000 else 0
def wH (l : List Sk) (b : List Tk) (kd : Int) : Int := if validB l b then 0 - (0 - isum (partHi kd l b) l.length) / 1000000000 else 0
def okE (l : List Sk) (b : List Tk) : Int := if validB l b then 0 else 1
def partsC (l : List Sk) (b : List Tk) : List PV := [.int .i64 (wL l b 0), .int .i64 (wH l b 0), .int .i64 (wL l b 1), .int .i64 (wH l b 1), .int .i64 (wL l b 2), .int .i64 (wH l b 2), .int .i64 (wL l b 3), .int .i64 (wH l b 3), .int .i64 (wL l b 4), .int .i64 (wH l b 4)]
theorem rWeighR_eq (l : List Sk) (b : List Tk) : rWeighR l b = [.agg [.int .i64 (wL l b 0), .int .i64 (wH l b 0), .int .i64 (wL l b 1), .int .i64 (wH l b 1), .int .i64 (wL l b 2), .int .i64 (wH l b 2), .int .i64 (wL l b 3), .int .i64 (wH l b 3), .int .i64 (wL l b 4), .int .i64 (wH l b 4)], .int .i64 (okE l b)] := by
  unfold rWeighR wL wH okE
  cases validB l b <;> rfl
def shL (l : List Sk) (b : List Tk) : Int := if validB l b then scLo l b 1001 else 0
def shH (l : List Sk) (b : List Tk) : Int := if validB l b then scHi l b 1001 else 0
theorem shareR_eq (l : List Sk) (b : List Tk) : shareR l b = [.agg [.int .i64 (shL l b), .int .i64 (shH l b)], .int .i64 (okE l b)] := by
  unfold shareR shL shH okE
  cases validB l b <;> rfl
def waE (l : List Sk) (b : List Tk) (w : Sp) : Int := if validB l b then (if w.ok 0 999 then (if waterHi l b w < waterLo l b w then 4 else 0) else 2) else 1
def waL (l : List Sk) (b : List Tk) (w : Sp) : Int := if waE l b w = 0 then waterLo l b w else 0
def waH (l : List Sk) (b : List Tk) (w : Sp) : Int := if waE l b w = 0 then waterHi l b w else 0
theorem waterR_eq (l : List Sk) (b : List Tk) (w : Sp) : waterR l b w = [.agg [.int .i64 (waL l b w), .int .i64 (waH l b w)], .int .i64 (waE l b w)] := by
  unfold waterR waL waH waE noSpan
  cases validB l b
  · rfl
  · cases w.ok 0 999
    · rfl
    · by_cases h : waterHi l b w < waterLo l b w
      · simp [h]
      · simp [h]
def mixE (l : List Sk) (i j t : Int) (w : Sp) : Int := if areSacksB l then (if mixGood l i j t w then (if (mixS (mixOk l i j t w) (t - 1).toNat).isSome then 0 else 4) else 2) else 1
def mixL (l : List Sk) (i j t : Int) (w : Sp) : Int := if mixE l i j t w = 0 then ((mixS (mixOk l i j t w) (t - 1).toNat).getD (0, 0)).1 else 0
def mixH (l : List Sk) (i j t : Int) (w : Sp) : Int := if mixE l i j t w = 0 then ((mixS (mixOk l i j t w) (t - 1).toNat).getD (0, 0)).2 else 0
theorem mixR_eq (l : List Sk) (i j t : Int) (w : Sp) : mixR l i j t w = [.agg [.int .i64 (mixL l i j t w), .int .i64 (mixH l i j t w)], .int .i64 (mixE l i j t w)] := by
  unfold mixR mixL mixH mixE noSpan
  cases areSacksB l
  · rfl
  · cases mixGood l i j t w
    · rfl
    · cases mixS (mixOk l i j t w) (t - 1).toNat with
      | none => rfl
      | some x => rfl
end Go.Proofs.Ytmcejcidbekpkaa
