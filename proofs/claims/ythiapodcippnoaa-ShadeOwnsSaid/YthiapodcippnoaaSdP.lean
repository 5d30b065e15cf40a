/-
  Plain data of chapter 2: curves, leads, shades, scales; the curve at a ratio; how black leads can be. No program in sight.
-/
import Derived.Test.YthiapodcippnoaaPl
import Derived.Test.YthiapodcippnoaaPlB
set_option linter.unusedVariables false
set_option linter.unusedSimpArgs false
namespace Go.Proofs.Ythiapodcippnoaa
open Go.AF
structure Tnt where
  r : Int
  b : Int
deriving DecidableEq
def Tnt.cells (t : Tnt) : List PV := [.int .i64 t.r, .int .i64 t.b]
def curV (c : List Tnt) : PV := .is (c.flatMap Tnt.cells) c.length
def tn (c : List Tnt) (i : Nat) : Tnt := c.getD i ⟨0, 0⟩
theorem tn_get {c : List Tnt} {i : Nat} (h : i < c.length) : c[i] = tn c i := by
  unfold tn
  rw [List.getD_eq_getElem?_getD, List.getElem?_eq_getElem h]; rfl
structure Stk where
  rlo : Int
  rhi : Int
  plo : Int
  phi : Int
deriving DecidableEq
def Stk.cells (s : Stk) : List PV := [.int .i64 s.rlo, .int .i64 s.rhi, .int .i64 s.plo, .int .i64 s.phi]
structure Lds where
  glo : Int
  ghi : Int
  clo : Int
  chi : Int
  tol : Int
  st : List Stk
  slo : Int
  shi : Int
  wlo : Int
  whi : Int
  many : Int
deriving DecidableEq
def stV (s : List Stk) : PV := .is (s.flatMap Stk.cells) s.length
def Lds.cells (l : Lds) : List PV := [.int .i64 l.glo, .int .i64 l.ghi, .int .i64 l.clo, .int .i64 l.chi, .int .i64 l.tol, stV l.st, .int .i64 l.slo, .int .i64 l.shi, .int .i64 l.wlo, .int .i64 l.whi, .int .i64 l.many]
def ldV (l : Lds) : PV := .agg l.cells
def ldsV (l : List Lds) : PV := .is (l.flatMap Lds.cells) l.length
structure Shd where
  blo : Int
  bhi : Int
  slo : Int
  shi : Int
  wlo : Int
  whi : Int
deriving DecidableEq
def Shd.cells (s : Shd) : List PV := [.int .i64 s.blo, .int .i64 s.bhi, .int .i64 s.slo, .int .i64 s.shi, .int .i64 s.wlo, .int .i64 s.whi]
def shdV (l : List Shd) : PV := .is (l.flatMap Shd.cells) l.length
structure Scl where
  n : Int
  least : Int
  most : Int
  gap : Int
deriving DecidableEq
def Scl.cells (s : Scl) : List PV := [.int .i64 s.n, .int .i64 s.least, .int .i64 s.most, .int .i64 s.gap]
/-- Leads with how black they can be. -/
structure Bch where
  l : Lds
  lo : Int
  hi : Int
deriving DecidableEq
def Bch.cells (b : Bch) : List PV := b.l.cells ++ [.int .i64 b.lo, .int .i64 b.hi]
def bchV (l : List Bch) : PV := .is (l.flatMap Bch.cells) l.length
def i1 (n : Int) : List PV := [.int .i64 n]
def intsV (l : List Int) : PV := .is (l.flatMap i1) l.length
def spV (p : Int × Int) : PV := .agg [.int .i64 p.1, .int .i64 p.2]
def bigN : Nat := 9223372036854775807

/-! ### What is valid -/
def inB (n lo hi : Int) : Bool := decide (lo ≤ n) && decide (n ≤ hi)
def spB (a b lo hi : Int) : Bool := decide (lo ≤ a) && decide (a ≤ b) && decide (b ≤ hi)
def stepOk (c : List Tnt) (i : Nat) : Prop := (0 ≤ (tn c i).b ∧ (tn c i).b ≤ 200) ∧ (i = 0 ∨ ((tn c (i - 1)).r < (tn c i).r ∧ (tn c (i - 1)).b ≤ (tn c i).b))
instance (c : List Tnt) (i : Nat) : Decidable (stepOk c i) := by unfold stepOk; infer_instance
def okC (c : List Tnt) : Prop := (2 ≤ c.length ∧ c.length ≤ 8) ∧ (tn c 0).r = 0 ∧ (tn c (c.length - 1)).r = 1000 ∧ ∀ i, i < c.length → stepOk c i
instance (c : List Tnt) : Decidable (okC c) := by unfold okC; infer_instance
def stkB (s : Stk) : Bool := spB s.rlo s.rhi 0 1000 && spB s.plo s.phi 1 4000
def okS (s : Stk) : Prop := (0 ≤ s.rlo ∧ s.rlo ≤ s.rhi ∧ s.rhi ≤ 1000) ∧ 1 ≤ s.plo ∧ s.plo ≤ s.phi ∧ s.phi ≤ 4000
theorem stkB_iff (s : Stk) : stkB s = true ↔ okS s := by
  unfold stkB spB okS
  simp [and_assoc]
def ldB (l : Lds) : Bool := spB l.glo l.ghi 1 1073741824 && spB l.clo l.chi 0 1073741824 && inB l.tol 0 200 && (spB l.slo l.shi 0 10000 && spB l.wlo l.whi 0 10000 && inB l.many 0 1048576) && decide (l.st.length ≤ 6) && l.st.all stkB
structure OkL (l : Lds) : Prop where
  g : 1 ≤ l.glo ∧ l.glo ≤ l.ghi ∧ l.ghi ≤ 1073741824
  c : 0 ≤ l.clo ∧ l.clo ≤ l.chi ∧ l.chi ≤ 1073741824
  t : 0 ≤ l.tol ∧ l.tol ≤ 200
  s : 0 ≤ l.slo ∧ l.slo ≤ l.shi ∧ l.shi ≤ 10000
  w : 0 ≤ l.wlo ∧ l.wlo ≤ l.whi ∧ l.whi ≤ 10000
  m : 0 ≤ l.many ∧ l.many ≤ 1048576
  n : l.st.length ≤ 6
  st : ∀ x ∈ l.st, okS x
theorem ldB_iff (l : Lds) : ldB l = true ↔ OkL l := by
  have hs : l.st.all stkB = true ↔ ∀ x ∈ l.st, okS x := by
    rw [List.all_eq_true]
    exact ⟨fun h x hx => (stkB_iff x).1 (h x hx), fun h x hx => (stkB_iff x).2 (h x hx)⟩
  unfold ldB
  simp only [Bool.and_eq_true, hs]
  unfold spB inB
  simp only [Bool.and_eq_true, decide_eq_true_eq]
  constructor
  · rintro ⟨⟨⟨⟨⟨h1, h2⟩, h3⟩, ⟨h4, h5⟩, h6⟩, h7⟩, h8⟩
    exact ⟨⟨h1.1.1, h1.1.2, h1.2⟩, ⟨h2.1.1, h2.1.2, h2.2⟩, h3, ⟨h4.1.1, h4.1.2, h4.2⟩, ⟨h5.1.1, h5.1.2, h5.2⟩, h6, h7, h8⟩
  · intro h
    exact ⟨⟨⟨⟨⟨⟨⟨h.g.1, h.g.2.1⟩, h.g.2.2⟩, ⟨⟨h.c.1, h.c.2.1⟩, h.c.2.2⟩⟩, h.t⟩, ⟨⟨⟨h.s.1, h.s.2.1⟩, h.s.2.2⟩, ⟨⟨h.w.1, h.w.2.1⟩, h.w.2.2⟩⟩, h.m⟩, h.n⟩, h.st⟩
def shdB (s : Shd) : Bool := spB s.blo s.bhi 0 200 && spB s.slo s.shi 0 10000 && spB s.wlo s.whi 0 10000
def sclB (s : Scl) : Bool := inB s.n 1 8 && inB s.most 1 200 && inB s.least 1 s.most && inB s.gap 1 s.least
structure OkZ (s : Scl) : Prop where
  n : 1 ≤ s.n ∧ s.n ≤ 8
  most : 1 ≤ s.most ∧ s.most ≤ 200
  least : 1 ≤ s.least ∧ s.least ≤ s.most
  gap : 1 ≤ s.gap ∧ s.gap ≤ s.least
theorem sclB_iff (s : Scl) : sclB s = true ↔ OkZ s := by
  unfold sclB inB
  simp only [Bool.and_eq_true, decide_eq_true_eq]
  exact ⟨fun ⟨⟨⟨h1, h2⟩, h3⟩, h4⟩ => ⟨h1, h2, h3, h4⟩, fun h => ⟨⟨⟨h.n, h.most⟩, h.least⟩, h.gap⟩⟩

/-! ### The curve at a ratio -/
def segF (c : List Tnt) (g a : Int) : Nat → Nat → Nat
  | 0, i => i
  | k + 1, i => if (tn c (i + 1)).r * a < 1000 * g then segF c g a k (i + 1) else i
def seg (c : List Tnt) (g a : Int) : Nat := segF c g a (c.length - 2) 0
theorem segF_spec (c : List Tnt) (g a : Int) : ∀ (k i : Nat), i ≤ segF c g a k i ∧ segF c g a k i ≤ i + k ∧ (∀ j, i ≤ j → j < segF c g a k i → (tn c (j + 1)).r * a < 1000 * g) ∧ (segF c g a k i < i + k → 1000 * g ≤ (tn c (segF c g a k i + 1)).r * a)
  | 0, i => ⟨Nat.le_refl _, Nat.le_refl _, fun j h1 h2 => by simp only [segF] at h2; omega, fun h => by simp only [segF] at h; omega⟩
  | k + 1, i => by
    unfold segF
    split
    · rename_i h
      obtain ⟨h1, h2, h3, h4⟩ := segF_spec c g a k (i + 1)
      refine ⟨by omega, by omega, fun j ha hb => ?_, fun h5 => h4 (by omega)⟩
      rcases Nat.lt_or_ge j (i + 1) with h6 | h6
      · obtain rfl : j = i := by omega
        exact h
      · exact h3 j h6 hb
    · rename_i h
      exact ⟨Nat.le_refl _, by omega, fun j ha hb => by omega, fun _ => by omega⟩
theorem okC_mono {c : List Tnt} (h : okC c) : ∀ {i j : Nat}, i ≤ j → j < c.length → (tn c i).r ≤ (tn c j).r ∧ (tn c i).b ≤ (tn c j).b := by
  intro i j hij hj
  induction j with
  | zero => obtain rfl : i = 0 := by omega
            exact ⟨Int.le_refl _, Int.le_refl _⟩
  | succ j ih =>
    rcases Nat.lt_or_ge i (j + 1) with h1 | h1
    · have h2 := ih (by omega) (by omega)
      have h3 := (h.2.2.2 (j + 1) hj).2
      rcases h3 with h3 | h3
      · omega
      · simp only [Nat.add_sub_cancel] at h3
        omega
    · obtain rfl : i = j + 1 := by omega
      exact ⟨Int.le_refl _, Int.le_refl _⟩
theorem okC_b {c : List Tnt} (h : okC c) {i : Nat} (hi : i < c.length) : 0 ≤ (tn c i).b ∧ (tn c i).b ≤ 200 := (h.2.2.2 i hi).1
theorem okC_r {c : List Tnt} (h : okC c) {i : Nat} (hi : i < c.length) : 0 ≤ (tn c i).r ∧ (tn c i).r ≤ 1000 := by
  have h1 := (okC_mono h (Nat.zero_le i) hi).1
  have h2 := (okC_mono h (show i ≤ c.length - 1 by omega) (by have := h.1; omega)).1
  rw [h.2.1] at h1
  rw [h.2.2.1] at h2
  exact ⟨h1, h2⟩
theorem okC_lt {c : List Tnt} (h : okC c) {i : Nat} (hi : i + 1 < c.length) : (tn c i).r < (tn c (i + 1)).r := by
  rcases (h.2.2.2 (i + 1) hi).2 with h3 | h3
  · omega
  · simpa using h3.1
structure SegOk (c : List Tnt) (g cl : Int) : Prop where
  lt : seg c g (g + cl) + 1 < c.length
  bef : ∀ j, j < seg c g (g + cl) → (tn c (j + 1)).r * (g + cl) < 1000 * g
  aft : ∀ j, seg c g (g + cl) ≤ j → j + 2 < c.length → 1000 * g ≤ (tn c (j + 1)).r * (g + cl)
  a0 : 0 ≤ 1000 * g - (tn c (seg c g (g + cl))).r * (g + cl)
  a1 : 1000 * g ≤ (tn c (seg c g (g + cl) + 1)).r * (g + cl)
theorem seg_ok {c : List Tnt} (h : okC c) {g cl : Int} (hg : 1 ≤ g) (hc : 0 ≤ cl) : SegOk c g cl := by
  obtain ⟨h1, h2, h3, h4⟩ := segF_spec c g (g + cl) (c.length - 2) 0
  have hl := h.1
  have e : segF c g (g + cl) (c.length - 2) 0 = seg c g (g + cl) := rfl
  rw [e] at h1 h2 h3 h4
  have hlt : seg c g (g + cl) + 1 < c.length := by omega
  have haft : ∀ j, seg c g (g + cl) ≤ j → j + 2 < c.length → 1000 * g ≤ (tn c (j + 1)).r * (g + cl) := fun j hj hj2 => by
    have h5 := h4 (by omega)
    have h6 := (okC_mono h (show seg c g (g + cl) + 1 ≤ j + 1 by omega) (by omega)).1
    have h7 := Int.mul_le_mul_of_nonneg_right h6 (show 0 ≤ g + cl by omega)
    omega
  refine ⟨hlt, fun j hj => h3 j (Nat.zero_le _) hj, haft, ?_, ?_⟩
  · rcases Nat.eq_zero_or_pos (seg c g (g + cl)) with h5 | h5
    · rw [h5, h.2.1]; omega
    · have h6 := h3 (seg c g (g + cl) - 1) (Nat.zero_le _) (by omega)
      rw [show seg c g (g + cl) - 1 + 1 = seg c g (g + cl) by omega] at h6
      omega
  · rcases Nat.lt_or_ge (seg c g (g + cl) + 2) c.length with h5 | h5
    · exact haft _ (Nat.le_refl _) h5
    · have h6 : seg c g (g + cl) + 1 = c.length - 1 := by omega
      rw [h6, h.2.2.1]; omega
def topI (c : List Tnt) (g cl : Int) : Int :=
  let i := seg c g (g + cl)
  (tn c i).b * ((tn c (i + 1)).r - (tn c i).r) * (g + cl) + ((tn c (i + 1)).b - (tn c i).b) * (1000 * g - (tn c i).r * (g + cl))
def undI (c : List Tnt) (g cl : Int) : Int :=
  let i := seg c g (g + cl)
  ((tn c (i + 1)).r - (tn c i).r) * (g + cl)
theorem mulB {a b A B : Int} (a0 : 0 ≤ a) (a1 : a ≤ A) (b0 : 0 ≤ b) (b1 : b ≤ B) : 0 ≤ a * b ∧ a * b ≤ A * B :=
  ⟨Int.mul_nonneg a0 b0, Int.le_trans (Int.mul_le_mul_of_nonneg_right a1 b0) (Int.mul_le_mul_of_nonneg_left b1 (by omega))⟩
structure FracOk (c : List Tnt) (g cl : Int) : Prop where
  u : 1 ≤ undI c g cl ∧ undI c g cl ≤ 1000 * 2147483648
  t : 0 ≤ topI c g cl ∧ topI c g cl ≤ 200 * undI c g cl
structure FW (ra rb ba bb a g : Int) : Prop where
  p1 : 0 ≤ ba * (rb - ra) ∧ ba * (rb - ra) ≤ 200000
  p2 : 0 ≤ ba * (rb - ra) * a ∧ ba * (rb - ra) * a ≤ 429496729600000
  p3 : 0 ≤ ra * a ∧ ra * a ≤ 2147483648000
  p4 : 0 ≤ (bb - ba) * (1000 * g - ra * a) ∧ (bb - ba) * (1000 * g - ra * a) ≤ 429496729600000
  p5 : 1 ≤ (rb - ra) * a ∧ (rb - ra) * a ≤ 2147483648000
  p6 : 0 ≤ ba * (rb - ra) * a + (bb - ba) * (1000 * g - ra * a) ∧ ba * (rb - ra) * a + (bb - ba) * (1000 * g - ra * a) ≤ 200 * ((rb - ra) * a)
  p7 : 0 ≤ 1000 * g - ra * a
  r : 0 ≤ ra ∧ ra < rb ∧ rb ≤ 1000
  b : 0 ≤ ba ∧ ba ≤ bb ∧ bb ≤ 200
theorem frac_pl {ra rb ba bb a g : Int} (h1 : ra < rb) (h2 : 0 ≤ ra) (h3 : rb ≤ 1000) (h4 : 0 ≤ ba) (h5 : ba ≤ bb) (h6 : bb ≤ 200) (h7 : 1 ≤ a) (h8 : a ≤ 2147483648) (h9 : 0 ≤ 1000 * g - ra * a) (h10 : 1000 * g ≤ rb * a) : FW ra rb ba bb a g := by
  have q1 := mulB (a := ba) (b := rb - ra) (A := 200) (B := 1000) h4 (by omega) (by omega) (by omega)
  have q2 := mulB (a := ba * (rb - ra)) (b := a) (A := 200000) (B := 2147483648) q1.1 q1.2 (by omega) h8
  have q3 := mulB (a := ra) (b := a) (A := 1000) (B := 2147483648) h2 (by omega) (by omega) h8
  have q4 := mulB (a := rb - ra) (b := a) (A := 1000) (B := 2147483648) (by omega) (by omega) (by omega) h8
  have q5 := Int.mul_le_mul (show 1 ≤ rb - ra by omega) h7 (by omega) (by omega)
  have e1 : (rb - ra) * a = rb * a - ra * a := Int.sub_mul _ _ _
  have q6 : 1000 * g - ra * a ≤ (rb - ra) * a := by omega
  have q7 := mulB (a := bb - ba) (b := 1000 * g - ra * a) (A := bb - ba) (B := (rb - ra) * a) (by omega) (Int.le_refl _) h9 q6
  have q8 := mulB (a := bb - ba) (b := (rb - ra) * a) (A := 200) (B := 2147483648000) (by omega) (by omega) q4.1 (by omega)
  have e2 : ba * (rb - ra) * a = ba * ((rb - ra) * a) := Int.mul_assoc _ _ _
  have e3 : ba * ((rb - ra) * a) + (bb - ba) * ((rb - ra) * a) = bb * ((rb - ra) * a) := by rw [← Int.add_mul]; congr 1; omega
  have q9 := Int.mul_le_mul_of_nonneg_right h6 q4.1
  refine ⟨⟨q1.1, by omega⟩, ⟨q2.1, by omega⟩, ⟨q3.1, by omega⟩, ⟨q7.1, by omega⟩, ⟨by omega, by omega⟩, ⟨by omega, by omega⟩, h9, ⟨h2, h1, h3⟩, h4, h5, h6⟩
theorem frac_walk {c : List Tnt} (h : okC c) {g cl : Int} (hg : 1 ≤ g) (hg2 : g ≤ 1073741824) (hc : 0 ≤ cl) (hc2 : cl ≤ 1073741824) {i : Nat} (hi : i = seg c g (g + cl)) : FW (tn c i).r (tn c (i + 1)).r (tn c i).b (tn c (i + 1)).b (g + cl) g := by
  have q := seg_ok h hg hc
  exact frac_pl (a := g + cl) (g := g) (okC_lt h (hi ▸ q.lt)) (okC_r h (i := i) (by have := q.lt; omega)).1 (okC_r h (i := i + 1) (hi ▸ q.lt)).2 (okC_b h (i := i) (by have := q.lt; omega)).1 (okC_mono h (Nat.le_succ i) (hi ▸ q.lt)).2 (okC_b h (i := i + 1) (hi ▸ q.lt)).2 (by omega) (by omega) (hi ▸ q.a0) (hi ▸ q.a1)
theorem frac_ok {c : List Tnt} (h : okC c) {g cl : Int} (hg : 1 ≤ g) (hg2 : g ≤ 1073741824) (hc : 0 ≤ cl) (hc2 : cl ≤ 1073741824) : FracOk c g cl := by
  have q := frac_walk h hg hg2 hc hc2 rfl
  exact ⟨⟨q.p5.1, Int.le_trans q.p5.2 (by decide)⟩, q.p6⟩

/-! ### Rounding -/
def upI (t u : Int) : Int := (t + u - 1) / u
def dnI (t u : Int) : Int := t / u
theorem dnI_iff {t u n : Int} (hu : 0 < u) : n ≤ dnI t u ↔ n * u ≤ t := Int.le_ediv_iff_mul_le hu
theorem upI_iff {t u n : Int} (hu : 0 < u) : upI t u ≤ n ↔ t ≤ n * u := by
  have h := Int.le_ediv_iff_mul_le (a := n + 1) (b := t + u - 1) hu
  have e : (n + 1) * u = n * u + u := by rw [Int.add_mul, Int.one_mul]
  unfold upI
  constructor
  · intro h1
    have : ¬ (n + 1 ≤ (t + u - 1) / u) := by omega
    rw [h] at this
    omega
  · intro h1
    have : ¬ ((n + 1) * u ≤ t + u - 1) := by omega
    rw [← h] at this
    omega
theorem upI_B {t u B : Int} (h1 : 1 ≤ u) (h2 : 0 ≤ t) (h3 : t ≤ B * u) : 0 ≤ upI t u ∧ upI t u ≤ B := by
  refine ⟨?_, (upI_iff (by omega)).2 h3⟩
  unfold upI
  exact Int.ediv_nonneg (by omega) (by omega)
theorem dnI_B {t u B : Int} (h1 : 1 ≤ u) (h2 : 0 ≤ t) (h3 : t ≤ B * u) : 0 ≤ dnI t u ∧ dnI t u ≤ B := by
  unfold dnI
  refine ⟨Int.ediv_nonneg h2 (by omega), ?_⟩
  have := Int.ediv_le_ediv (show 0 < u by omega) h3
  rwa [Int.mul_ediv_cancel _ (by omega)] at this

/-! ### How black leads can be -/
def recB (c : List Tnt) (l : Lds) : Int × Int := (upI (topI c l.glo l.chi) (undI c l.glo l.chi) - l.tol, dnI (topI c l.ghi l.clo) (undI c l.ghi l.clo) + l.tol)
def stkBd (s : Stk) : Int × Int := (upI (1000 * s.rlo) s.phi, dnI (1000 * s.rhi) s.plo)
def meet (o b : Int × Int) : Int × Int := (max o.1 b.1, min o.2 b.2)
def srcs (c : List Tnt) (l : Lds) : List (Int × Int) := recB c l :: l.st.map stkBd
def meets (bs : List (Int × Int)) : Int × Int := bs.foldl meet (0, 200)
def blk (c : List Tnt) (l : Lds) : Int × Int := meets (srcs c l)
theorem meets_take {bs : List (Int × Int)} {k : Nat} (h : k < bs.length) : meets (bs.take (k + 1)) = meet (meets (bs.take k)) bs[k] := by
  unfold meets
  rw [List.take_succ_eq_append_getElem h, List.foldl_append]; rfl
theorem srcs_length (c : List Tnt) (l : Lds) : (srcs c l).length = l.st.length + 1 := by simp [srcs]
theorem foldl_meet (bs : List (Int × Int)) : ∀ (o : Int × Int) (n : Int), ((bs.foldl meet o).1 ≤ n ∧ n ≤ (bs.foldl meet o).2) ↔ (o.1 ≤ n ∧ n ≤ o.2) ∧ ∀ b ∈ bs, b.1 ≤ n ∧ n ≤ b.2 := by
  induction bs with
  | nil => intro o n; simp
  | cons b bs ih =>
    intro o n
    rw [List.foldl_cons, ih]
    simp only [List.mem_cons, forall_eq_or_imp, meet]
    constructor
    · rintro ⟨h1, h2⟩; exact ⟨by omega, by omega, h2⟩
    · rintro ⟨h1, h2, h3⟩; exact ⟨by omega, h3⟩
theorem meets_iff (bs : List (Int × Int)) (n : Int) : ((meets bs).1 ≤ n ∧ n ≤ (meets bs).2) ↔ (0 ≤ n ∧ n ≤ 200) ∧ ∀ b ∈ bs, b.1 ≤ n ∧ n ≤ b.2 := foldl_meet bs (0, 200) n
theorem foldl_B (bs : List (Int × Int)) : ∀ (o : Int × Int), o.1 ≤ (bs.foldl meet o).1 ∧ (bs.foldl meet o).2 ≤ o.2 := by
  induction bs with
  | nil => intro o; exact ⟨Int.le_refl _, Int.le_refl _⟩
  | cons b bs ih =>
    intro o
    have := ih (meet o b)
    simp only [List.foldl_cons, meet] at this ⊢
    omega
theorem meets_B (bs : List (Int × Int)) : 0 ≤ (meets bs).1 ∧ (meets bs).2 ≤ 200 := foldl_B bs (0, 200)
/-- Is a blackness that of a truth? -/
def holdsI (c : List Tnt) (l : Lds) (n : Int) : Prop :=
  (topI c l.glo l.chi ≤ (n + l.tol) * undI c l.glo l.chi ∧ n * undI c l.ghi l.clo ≤ topI c l.ghi l.clo + l.tol * undI c l.ghi l.clo) ∧ ∀ s ∈ l.st, n * s.plo ≤ 1000 * s.rhi ∧ 1000 * s.rlo ≤ n * s.phi
instance (c : List Tnt) (l : Lds) (n : Int) : Decidable (holdsI c l n) := by unfold holdsI; infer_instance
theorem holds_iff {c : List Tnt} {l : Lds} (hc : okC c) (hl : OkL l) (n : Int) : (0 ≤ n ∧ n ≤ 200) ∧ holdsI c l n ↔ (blk c l).1 ≤ n ∧ n ≤ (blk c l).2 := by
  have f1 := frac_ok hc (g := l.glo) (cl := l.chi) (by have := hl.g; omega) (by have := hl.g; omega) (by have := hl.c; omega) (by have := hl.c; omega)
  have f2 := frac_ok hc (g := l.ghi) (cl := l.clo) (by have := hl.g; omega) (by have := hl.g; omega) (by have := hl.c; omega) (by have := hl.c; omega)
  unfold blk
  rw [meets_iff]
  have hs : ∀ s ∈ l.st, ((stkBd s).1 ≤ n ∧ n ≤ (stkBd s).2 ↔ n * s.plo ≤ 1000 * s.rhi ∧ 1000 * s.rlo ≤ n * s.phi) := fun s hs => by
    have := hl.st s hs
    unfold okS at this
    unfold stkBd
    dsimp only
    rw [upI_iff (by omega), dnI_iff (by omega), and_comm]
  have e1 := upI_iff (t := topI c l.glo l.chi) (u := undI c l.glo l.chi) (n := n + l.tol) (by have := f1.u; omega)
  have e2 := dnI_iff (t := topI c l.ghi l.clo) (u := undI c l.ghi l.clo) (n := n - l.tol) (by have := f2.u; omega)
  have e3 : (n - l.tol) * undI c l.ghi l.clo = n * undI c l.ghi l.clo - l.tol * undI c l.ghi l.clo := Int.sub_mul _ _ _
  unfold srcs holdsI
  simp only [List.mem_cons, forall_eq_or_imp, List.forall_mem_map]
  unfold recB
  dsimp only
  constructor
  · rintro ⟨h1, ⟨h2, h3⟩, h4⟩
    exact ⟨h1, ⟨by have := e1.2 h2; omega, by have := e2.2 (by omega); omega⟩, fun s h => (hs s h).2 (h4 s h)⟩
  · rintro ⟨h1, ⟨h2, h3⟩, h4⟩
    exact ⟨h1, ⟨e1.1 (by omega), by have := e2.1 (by omega); omega⟩, fun s h => (hs s h).1 (h4 s h)⟩

theorem not_any_not {α : Type} (p : α → Bool) (xs : List α) : (!xs.any fun x => !p x) = xs.all p := by
  rw [List.all_eq_not_any_not]
theorem len6 (n : Nat) : decide ((n : Int) ≤ 6) = decide (n ≤ 6) := decide_eq_decide.2 (by omega)
end Go.Proofs.Ythiapodcippnoaa
