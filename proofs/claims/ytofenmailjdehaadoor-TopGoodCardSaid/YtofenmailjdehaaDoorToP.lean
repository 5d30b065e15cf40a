/-
  Plain data of chapter 10, as far as a sale of one supply and one order goes; what truly is bad, the looks that say so, and how many pencils can be bad. No program in sight.
-/
import Derived.Test.YtofenmailjdehaaDoorTcQ
set_option linter.unusedVariables false
set_option linter.unusedSimpArgs false
namespace Go.Proofs.YtofenmailjdehaaDoor
open Go.AF
structure Sup where
  sh : Int
  lo : Int
  hi : Int
  rlo : Int
  rhi : Int
def Sup.cells (x : Sup) : List PV := [.int .i64 x.sh, .int .i64 x.lo, .int .i64 x.hi, .int .i64 x.rlo, .int .i64 x.rhi]
structure Ord where
  os : Int
  n : Int
  du : Int
  pr : Int
def Ord.cells (x : Ord) : List PV := [.int .i64 x.os, .int .i64 x.n, .int .i64 x.du, .int .i64 x.pr]
def supsV (l : List Sup) : PV := .is (l.flatMap Sup.cells) l.length
def ordsV (l : List Ord) : PV := .is (l.flatMap Ord.cells) l.length
def saleC (x : Sup) (o : Ord) : List PV := [supsV [x], ordsV [o]]
def saleV (x : Sup) (o : Ord) : PV := .agg (saleC x o)
def spB (lo hi a b : Int) : Bool := decide (a ≤ lo) && decide (lo ≤ hi) && decide (hi ≤ b)
def supB (x : Sup) : Bool := !inB x.sh 0 255 || !spB x.lo x.hi 0 1048576 || !spB x.rlo x.rhi 0 1048576
def ordB (o : Ord) : Bool := !inB o.os 0 7 || !inB o.n 0 1048576 || !inB o.du 0 1048576 || !inB o.pr 0 1000000
theorem one_get {α : Type} {x : α} : ∀ k (h : k < [x].length), [x][k] = (fun _ => x) k := fun k h => by
  have : k = 0 := by simpa using h
  subst this
  rfl
def mKC (a b : Int) : List PV := [intsV [a], intsV [b], intsV [1]]
/-! ### Sets of orders -/
def prtB (s x : Nat) : Bool := decide (((x ^^^ (x &&& s) : Nat) : Int) = 0)
def prtF (s p : Nat) : List Nat := (List.range p).filter (prtB s)
def prtX (s : Nat) : List (List V) := (prtF s (s + 1)).map fun k => [V.p (.int .i64 ((k : Nat) : Int))]
theorem prtF_T {s p : Nat} (h : prtB s p = true) : prtF s (p + 1) = prtF s p ++ [p] := by
  unfold prtF; rw [List.range_succ, List.filter_append]; simp [h]
theorem prtF_F {s p : Nat} (h : prtB s p = false) : prtF s (p + 1) = prtF s p := by
  unfold prtF; rw [List.range_succ, List.filter_append]; simp [h]
theorem prtF_pre (s : Nat) {p q : Nat} (h : p ≤ q) : prtF s p <+: prtF s q := by
  induction q with
  | zero => rw [show p = 0 by omega]; exact List.prefix_refl _
  | succ q ih =>
    rcases Nat.lt_or_ge p (q + 1) with h1 | h1
    · refine (ih (by omega)).trans ?_
      cases hq : prtB s q with
      | true => rw [prtF_T hq]; exact List.prefix_append _ _
      | false => rw [prtF_F hq]; exact List.prefix_refl _
    · obtain rfl : p = q + 1 := by omega
      exact List.prefix_refl _
theorem prtX_at {s p : Nat} (hp : p < s + 1) (h : prtB s p = true) : (prtX s)[(prtF s p).length]? = some [V.p (.int .i64 ((p : Nat) : Int))] := by
  have h1 := prtF_pre s (show p + 1 ≤ s + 1 by omega)
  rw [prtF_T h] at h1
  obtain ⟨t, ht⟩ := h1
  unfold prtX
  rw [← ht, List.getElem?_map]
  simp
theorem prtX_len (s : Nat) : (prtX s).length = (prtF s (s + 1)).length := by unfold prtX; rw [List.length_map]
theorem prt_one : prtF 1 2 = [0, 1] := by decide
/-! ### What is lacking -/
def lkN (a b : Int) (s : Nat) : Int := (if s.testBit 0 = true then a else 0) - (if (!decide (((1 &&& s : Nat) : Int) = 0)) = true then b else 0)
theorem lk_0 (a b : Int) : lkN a b 0 = 0 := by
  unfold lkN
  rw [show (0 : Nat).testBit 0 = false by decide, show (!decide (((1 &&& 0 : Nat) : Int) = 0)) = false by decide]
  rfl
theorem lk_1 (a b : Int) : lkN a b 1 = a - b := by
  unfold lkN
  rw [show (1 : Nat).testBit 0 = true by decide, show (!decide (((1 &&& 1 : Nat) : Int) = 0)) = true by decide, if_pos rfl, if_pos rfl]
def woB (s s2 : Nat) (m m2 : Int) : Bool := if m ≠ m2 then decide (m > m2) else decide ((szN s : Int) < (szN s2 : Int))
/-- What lacks most, after so many sets. -/
def mostF (a b : Int) (k : Nat) : Nat × Int := if 2 ≤ k ∧ a - b > 0 then (1, a - b) else (0, 0)
theorem most_lt (a b : Int) {k : Nat} (h : k < 2) : mostF a b k = (0, 0) := by unfold mostF; rw [if_neg (by omega)]
theorem most_0 (a b : Int) : woB 0 (mostF a b 0).1 0 (mostF a b 0).2 = false ∧ mostF a b 1 = mostF a b 0 := by
  rw [most_lt a b (k := 0) (by omega), most_lt a b (k := 1) (by omega)]
  exact ⟨by decide, rfl⟩
theorem most_T {a b : Int} (h : woB 1 (mostF a b 1).1 (a - b) (mostF a b 1).2 = true) : mostF a b 2 = (1, a - b) := by
  rw [most_lt a b (k := 1) (by omega)] at h
  unfold woB at h
  dsimp only at h
  by_cases e : a - b ≠ 0
  · rw [if_pos e, decide_eq_true_eq] at h
    unfold mostF
    rw [if_pos ⟨by omega, h⟩]
  · rw [if_neg e] at h
    exact absurd h (by decide)
theorem most_F {a b : Int} (h : woB 1 (mostF a b 1).1 (a - b) (mostF a b 1).2 = false) : mostF a b 2 = mostF a b 1 := by
  rw [most_lt a b (k := 1) (by omega)] at h ⊢
  unfold woB at h
  dsimp only at h
  unfold mostF
  by_cases e : a - b ≠ 0
  · rw [if_pos e, decide_eq_false_iff_not] at h
    rw [if_neg (by omega)]
  · rw [if_neg (by omega)]
theorem lk_B (a b : Int) {k : Nat} (h : k < 2) : lkN a b k = if k = 0 then 0 else a - b := by
  rcases Nat.lt_or_ge k 1 with h1 | h1
  · obtain rfl : k = 0 := by omega
    rw [lk_0, if_pos rfl]
  · obtain rfl : k = 1 := by omega
    rw [lk_1, if_neg (by omega)]
theorem most_ST {a b : Int} {k : Nat} (h : k < 2) (hw : woB k (mostF a b k).1 (lkN a b k) (mostF a b k).2 = true) : mostF a b (k + 1) = (k, lkN a b k) := by
  rcases Nat.lt_or_ge k 1 with h1 | h1
  · obtain rfl : k = 0 := by omega
    rw [lk_0, (most_0 a b).1] at hw
    cases hw
  · obtain rfl : k = 1 := by omega
    rw [lk_1] at hw ⊢
    exact most_T hw
theorem most_SF {a b : Int} {k : Nat} (h : k < 2) (hw : woB k (mostF a b k).1 (lkN a b k) (mostF a b k).2 = false) : mostF a b (k + 1) = mostF a b k := by
  rcases Nat.lt_or_ge k 1 with h1 | h1
  · obtain rfl : k = 0 := by omega
    exact (most_0 a b).2
  · obtain rfl : k = 1 := by omega
    rw [lk_1] at hw
    exact most_F hw
theorem most_lt2 (a b : Int) (k : Nat) : (mostF a b k).1 < 256 := by unfold mostF; split; { exact (by decide : (1 : Nat) < 256) }; { exact (by decide : (0 : Nat) < 256) }
theorem prt1_get {k : Nat} {x : List V} (h : (prtX 1)[k]? = some x) : k < 2 ∧ x = [V.p (.int .i64 ((k : Nat) : Int))] := by
  unfold prtX at h
  rw [prt_one] at h
  match k, h with
  | 0, h => exact ⟨by decide, (Option.some.inj h).symm⟩
  | 1, h => exact ⟨by decide, (Option.some.inj h).symm⟩
  | k + 2, h => cases h
theorem prt1_len : (prtX 1).length = 2 := by rw [prtX_len, prt_one]; rfl
def metN (n lo hi : Int) : Int := if n - lo ≤ 0 then 2 else if n - hi ≤ 0 then 1 else 0
def fwN (j : Nat) : Bool := decide (j = 0)
theorem fw_get : ∀ k (h : k < [true, false].length), [true, false][k] = fwN k := fun k h => by
  match k, h with
  | 0, _ => rfl
  | 1, _ => rfl
theorem sup_B {x : Sup} (h : supB x = false) : (0 ≤ x.lo ∧ x.lo ≤ 1048576) ∧ 0 ≤ x.hi ∧ x.hi ≤ 1048576 := by
  unfold supB spB at h
  simp at h
  omega
theorem ord_B {o : Ord} (h : ordB o = false) : 0 ≤ o.n ∧ o.n ≤ 1048576 := by
  unfold ordB inB at h
  simp at h
  omega
/-! ### Numbers in sets -/
theorem bits_lt {a g n : Nat} (h : a < 2 ^ g) (hg : g ≤ n) : bitsN a n = bitsN a g := bitsN_skip hg fun i h1 h2 => by
  cases hb : a.testBit i with
  | false => rfl
  | true => exact absurd (bit_of_lt h hb) (by omega)
theorem szN_of {a g : Nat} (h : a < 2 ^ g) (hg : g ≤ 8) : szN a = (bitsN a g).length := by unfold szN; rw [bits_lt h hg]
theorem bits_len (a g : Nat) : (bitsN a g).length ≤ g := by
  unfold bitsN
  exact Nat.le_trans (List.length_filter_le _ _) (by rw [List.length_range]; exact Nat.le_refl _)
theorem szN_or {a g : Nat} (h : a < 2 ^ g) (hg : g < 8) : szN (a ||| 2 ^ g) = szN a + 1 := by
  have h2 : a ||| 2 ^ g < 2 ^ (g + 1) := Nat.or_lt_two_pow (Nat.lt_of_lt_of_le h (Nat.pow_le_pow_right (by omega) (by omega))) (Nat.pow_lt_pow_right (by omega) (by omega))
  rw [szN_of h2 (by omega), szN_of h (by omega), bitsN_succ, if_pos (by rw [Nat.testBit_or, Nat.testBit_two_pow]; simp), List.length_append]
  have : bitsN (a ||| 2 ^ g) g = bitsN a g := by
    unfold bitsN
    refine List.filter_congr fun i hi => ?_
    have := List.mem_range.1 hi
    rw [Nat.testBit_or, Nat.testBit_two_pow, decide_eq_false (by omega), Bool.or_false]
  rw [this]
  rfl
def pkF (w : Nat) (m : Int) : Nat → Nat
  | 0 => 0
  | g + 1 => if (w.testBit g && decide ((szN (pkF w m g) : Int) < m)) = true then pkF w m g ||| 2 ^ g else pkF w m g
theorem pkF_lt (w : Nat) (m : Int) : ∀ g, pkF w m g < 2 ^ g
  | 0 => Nat.lt_succ_self 0
  | g + 1 => by
    have ih := pkF_lt w m g
    have hp := Nat.pow_le_pow_right (show 0 < 2 by omega) (show g ≤ g + 1 by omega)
    rw [pkF]
    split
    · exact Nat.or_lt_two_pow (by omega) (Nat.pow_lt_pow_right (by omega) (by omega))
    · omega
theorem pkF_sz (w : Nat) {m : Int} (hm : 0 ≤ m) : ∀ g, g ≤ 8 → (szN (pkF w m g) : Int) ≤ m
  | 0, _ => by
    show ((szN 0 : Nat) : Int) ≤ m
    rw [show szN 0 = 0 by decide]
    exact hm
  | g + 1, hg => by
    have ih := pkF_sz w hm g (by omega)
    rw [pkF]
    split
    · rename_i h
      rw [Bool.and_eq_true, decide_eq_true_eq] at h
      rw [szN_or (pkF_lt w m g) (by omega)]
      omega
    · exact ih
/-! ### How many pencils -/
def mnR (c : Crt) (a b r : Nat) : Nat → Int
  | 0 => 0
  | k + 1 => mnR c a b r k + (if badB a b r k = true then nt c.rows r else 0)
theorem mnR_eq (c : Crt) (a b r : Nat) : ∀ k, mnR c a b r k = if a.testBit r = true then nt c.rows r * (k : Int) else nt c.rows r * ((bitsN b k).length : Int)
  | 0 => by
    unfold mnR
    split
    · simp
    · show (0 : Int) = nt c.rows r * (([] : List Nat).length : Int)
      simp
  | k + 1 => by
    rw [mnR, mnR_eq c a b r k]
    unfold badB
    by_cases ha : a.testBit r = true
    · rw [if_pos ha, if_pos ha, ha, Bool.true_or, if_pos rfl]
      push_cast
      rw [Int.mul_add, Int.mul_one]
    · rw [if_neg ha, if_neg ha]
      have ha2 : a.testBit r = false := by simpa using ha
      rw [ha2, Bool.false_or, bitsN_succ]
      by_cases hb : b.testBit k = true
      · rw [if_pos hb, if_pos hb, List.length_append]
        show _ = nt c.rows r * (((bitsN b k).length + 1 : Nat) : Int)
        push_cast
        rw [Int.mul_add, Int.mul_one]
      · rw [if_neg hb, if_neg hb, Int.add_zero]
theorem mnR_all {c : Crt} (hc : crB c = true) (a : Nat) {b : Nat} (hb : b < 2 ^ c.cols.toNat) (r : Nat) : mnR c a b r c.cols.toNat = if a.testBit r = true then nt c.rows r * c.cols else nt c.rows r * (szN b : Int) := by
  obtain ⟨_, ⟨h1, h2⟩, _⟩ := crB_of hc
  rw [mnR_eq, szN_of hb (by omega), Int.toNat_of_nonneg (by omega)]
theorem mnR_B {c : Crt} (hc : crB c = true) (a b : Nat) {r : Nat} (hr : r < c.rows.length) : ∀ k, 0 ≤ mnR c a b r k ∧ mnR c a b r k ≤ (k : Int) * 1000
  | 0 => by unfold mnR; omega
  | k + 1 => by
    have ih := mnR_B hc a b hr k
    have := (crB_of hc).2.2.1 _ (nt_mem hr)
    rw [mnR]
    split <;> omega
def allF (c : Crt) : Nat → Int
  | 0 => 0
  | g + 1 => allF c g + nt c.rows g * c.cols
theorem allF_B {c : Crt} (hc : crB c = true) : ∀ g, g ≤ c.rows.length → 0 ≤ allF c g ∧ allF c g ≤ (g : Int) * 8000
  | 0, _ => by unfold allF; omega
  | g + 1, hg => by
    have ih := allF_B hc g (by omega)
    have := (many_step hc (b := 0) (show g < c.rows.length by omega)).1
    rw [allF]
    omega
theorem many_all {c : Crt} (hc : crB c = true) (a : Nat) {b : Nat} (hb : b < 2 ^ c.cols.toNat) : ∀ g, g ≤ c.rows.length → manyF c a b g ≤ allF c g
  | 0, _ => Int.le_refl _
  | g + 1, hg => by
    have ih := many_all hc a hb g (by omega)
    obtain ⟨_, ⟨h1, h2⟩, h3, _⟩ := crB_of hc
    have h4 := h3 _ (nt_mem (show g < c.rows.length by omega))
    have h5 : (szN b : Int) ≤ c.cols := by
      rw [szN_of hb (by omega)]
      have := bits_len b c.cols.toNat
      omega
    have h6 := Int.mul_le_mul_of_nonneg_left h5 (show 0 ≤ nt c.rows g by omega)
    rw [manyF, allF]
    split <;> omega
/-! ### How many can be bad -/
theorem pic_span (c : Crt) : ∀ (ts : List (Nat × Nat)) (p : Pic), p.n ≠ 0 → p.lo ≤ p.hi → ∀ (M : Int), (∀ t ∈ ts, 0 ≤ manyN c t.1 t.2 ∧ manyN c t.1 t.2 ≤ M) → 0 ≤ p.lo → p.hi ≤ M →
    (ts.foldl (picA c) p).lo ≤ p.lo ∧ p.hi ≤ (ts.foldl (picA c) p).hi ∧ (∀ t ∈ ts, (ts.foldl (picA c) p).lo ≤ manyN c t.1 t.2 ∧ manyN c t.1 t.2 ≤ (ts.foldl (picA c) p).hi) ∧ 0 ≤ (ts.foldl (picA c) p).lo ∧ (ts.foldl (picA c) p).hi ≤ M
  | [], p, _, h, M, _, h1, h2 => ⟨Int.le_refl _, Int.le_refl _, (fun t ht => by cases ht), h1, h2⟩
  | x :: ts, p, hn, h, M, hM, h1, h2 => by
    have hx := hM x (by simp)
    have elo : (picA c p x).lo = min (min (manyN c x.1 x.2) p.lo) p.hi := by
      show min (min _ (if p.n = 0 then _ else p.lo)) (if p.n = 0 then _ else p.hi) = _
      rw [if_neg hn, if_neg hn]
    have ehi : (picA c p x).hi = max (max (manyN c x.1 x.2) p.lo) p.hi := by
      show max (max _ (if p.n = 0 then _ else p.lo)) (if p.n = 0 then _ else p.hi) = _
      rw [if_neg hn, if_neg hn]
    obtain ⟨k1, k2, k3, k4, k5⟩ := pic_span c ts (picA c p x) (Nat.succ_ne_zero _) (by rw [elo, ehi]; omega) M (fun t ht => hM t (by simp [ht])) (by rw [elo]; omega) (by rw [ehi]; omega)
    rw [elo] at k1
    rw [ehi] at k2
    rw [List.foldl_cons]
    refine ⟨by omega, by omega, fun t ht => ?_, k4, k5⟩
    rcases List.mem_cons.1 ht with rfl | ht
    · omega
    · exact k3 t ht
theorem pic_of {c : Crt} {ts : List (Nat × Nat)} {t : Nat × Nat} (ht : t ∈ ts) {M : Int} (hM : ∀ t ∈ ts, 0 ≤ manyN c t.1 t.2 ∧ manyN c t.1 t.2 ≤ M) : 0 ≤ (picF c ts).lo ∧ (picF c ts).lo ≤ manyN c t.1 t.2 ∧ manyN c t.1 t.2 ≤ (picF c ts).hi ∧ (picF c ts).hi ≤ M := by
  match ts, ht with
  | x :: ts, ht =>
    have hx := hM x (by simp)
    have elo : (picA c pic0 x).lo = manyN c x.1 x.2 := by
      show min (min _ (if (0 : Nat) = 0 then _ else _)) (if (0 : Nat) = 0 then _ else _) = _
      rw [if_pos rfl, if_pos rfl]
      omega
    have ehi : (picA c pic0 x).hi = manyN c x.1 x.2 := by
      show max (max _ (if (0 : Nat) = 0 then _ else _)) (if (0 : Nat) = 0 then _ else _) = _
      rw [if_pos rfl, if_pos rfl]
      omega
    obtain ⟨k1, k2, k3, k4, k5⟩ := pic_span c ts (picA c pic0 x) (Nat.succ_ne_zero _) (by rw [elo, ehi]; omega) M (fun t ht => hM t (by simp [ht])) (by rw [elo]; omega) (by rw [ehi]; omega)
    rw [elo] at k1
    rw [ehi] at k2
    have e : picF c (x :: ts) = ts.foldl (picA c) (picA c pic0 x) := rfl
    rw [e]
    rcases List.mem_cons.1 ht with rfl | ht
    · exact ⟨k4, k1, k2, k5⟩
    · exact ⟨k4, (k3 t ht).1, (k3 t ht).2, k5⟩
/-! ### The looks -/
def lokF (c : Crt) (a b n : Nat) : Lk := ⟨((n % c.rows.length : Nat) : Int), ((n / 2 ^ 4 % c.cols.toNat : Nat) : Int), if badB a b (n % c.rows.length) (n / 2 ^ 4 % c.cols.toNat) = true then 1 else 0⟩
def loks (c : Crt) (a b : Nat) (by_ : List Nat) : List Lk := by_.map (lokF c a b)
theorem lok_wr {c : Crt} (hc : crB c = true) (a b n : Nat) : wrB c (lokF c a b n) = false := by
  obtain ⟨⟨h1, _⟩, ⟨h2, _⟩, _⟩ := crB_of hc
  have m1 := Nat.mod_lt n (show 0 < c.rows.length by omega)
  have m2 := Nat.mod_lt (n / 2 ^ 4) (show 0 < c.cols.toNat by omega)
  unfold wrB plB inB lokF
  generalize n % c.rows.length = r at m1 ⊢
  generalize n / 2 ^ 4 % c.cols.toNat = k at m2 ⊢
  simp
  split <;> omega
theorem lok_fit (c : Crt) (a b n : Nat) : fitB a b (lokF c a b n) = true := by
  unfold fitB lokF
  dsimp only
  rw [Int.toNat_natCast, Int.toNat_natCast]
  cases h : badB a b (n % c.rows.length) (n / 2 ^ 4 % c.cols.toNat) with
  | true => simp
  | false => simp
structure Good (c : Crt) (A B : Nat) (l : List Lk) : Prop where
  cr : crB c = true
  a : A ∈ setsL c.rows.length c.clamps
  b : B ∈ setsL c.cols.toNat c.dies
  l : ∃ by_ : List Nat, l = loks c A B by_
theorem good_tru {c : Crt} {A B : Nat} {l : List Lk} (h : Good c A B l) : (A, B) ∈ truL c l := by
  obtain ⟨by_, rfl⟩ := h.l
  refine tru_mem.2 ⟨h.a, h.b, ?_⟩
  rw [List.all_eq_true]
  intro x hx
  unfold loks at hx
  obtain ⟨n, _, rfl⟩ := List.mem_map.1 hx
  exact lok_fit c A B n
theorem good_wr {c : Crt} {A B : Nat} {l : List Lk} (h : Good c A B l) : ∀ x ∈ l, wrB c x = false := by
  obtain ⟨by_, rfl⟩ := h.l
  intro x hx
  unfold loks at hx
  obtain ⟨n, _, rfl⟩ := List.mem_map.1 hx
  exact lok_wr h.cr A B n
def allN (c : Crt) : Int := allF c c.rows.length
theorem good_span {c : Crt} {A B : Nat} {l : List Lk} (h : Good c A B l) : 0 ≤ (picF c (truL c l)).lo ∧ (picF c (truL c l)).lo ≤ manyN c A B ∧ manyN c A B ≤ (picF c (truL c l)).hi ∧ (picF c (truL c l)).hi ≤ allN c :=
  pic_of (t := (A, B)) (good_tru h) fun t ht => ⟨(manyN_B h.cr _ _).1, by
    obtain ⟨a, b⟩ := t
    exact many_all h.cr a (sets_mem.1 (tru_mem.1 ht).2.1).1 c.rows.length (Nat.le_refl _)⟩
end Go.Proofs.YtofenmailjdehaaDoor
