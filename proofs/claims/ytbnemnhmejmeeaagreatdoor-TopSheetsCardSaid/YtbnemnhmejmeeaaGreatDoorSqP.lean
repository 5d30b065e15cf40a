/-
  Plain data of chapter 2: curves, leads, shades, scales; the curve at a ratio; how black leads can be. No program in sight.
  Plain data of chapter 2, more: division, what says how black leads can be, errors, shades that leads have, pairs in order. No program in sight.
  Plain data of chapter 2, more: pairs in order. No program in sight.
  From what the statements' arguments of chapter 2 may hold to plain data. No condition.
-/
import Derived.Test.YtbnemnhmejmeeaaGreatDoorPm
import Derived.Test.YtbnemnhmejmeeaaGreatDoorFaD
section
set_option linter.unusedVariables false
set_option linter.unusedSimpArgs false
namespace Go.Proofs.YtbnemnhmejmeeaaGreatDoor.Sh
open Go.AF
structure Tnt where
  r : Int
  b : Int
deriving DecidableEq
def Tnt.cells (t : Tnt) : List PV := [.int .i64 t.r, .int .i64 t.b]
def curV (c : List Tnt) : PV := .is (c.flatMap Tnt.cells) c.length
def tn (c : List Tnt) (i : Nat) : Tnt := c.getD i ⟨0, 0⟩
theorem tn_get {c : List Tnt} {i : Nat} (h : i < c.length) : c[i] = tn c i := by
  unfold tn
  rw [List.getD_eq_getElem?_getD, List.getElem?_eq_getElem h]; rfl
structure Stk where
  rlo : Int
  rhi : Int
  plo : Int
  phi : Int
deriving DecidableEq
def Stk.cells (s : Stk) : List PV := [.int .i64 s.rlo, .int .i64 s.rhi, .int .i64 s.plo, .int .i64 s.phi]
structure Lds where
  glo : Int
  ghi : Int
  clo : Int
  chi : Int
  tol : Int
  st : List Stk
  slo : Int
  shi : Int
  wlo : Int
  whi : Int
  many : Int
deriving DecidableEq
def stV (s : List Stk) : PV := .is (s.flatMap Stk.cells) s.length
def Lds.cells (l : Lds) : List PV := [.int .i64 l.glo, .int .i64 l.ghi, .int .i64 l.clo, .int .i64 l.chi, .int .i64 l.tol, stV l.st, .int .i64 l.slo, .int .i64 l.shi, .int .i64 l.wlo, .int .i64 l.whi, .int .i64 l.many]
def ldV (l : Lds) : PV := .agg l.cells
def ldsV (l : List Lds) : PV := .is (l.flatMap Lds.cells) l.length
structure Shd where
  blo : Int
  bhi : Int
  slo : Int
  shi : Int
  wlo : Int
  whi : Int
deriving DecidableEq
def Shd.cells (s : Shd) : List PV := [.int .i64 s.blo, .int .i64 s.bhi, .int .i64 s.slo, .int .i64 s.shi, .int .i64 s.wlo, .int .i64 s.whi]
def shdV (l : List Shd) : PV := .is (l.flatMap Shd.cells) l.length
structure Scl where
  n : Int
  least : Int
  most : Int
  gap : Int
deriving DecidableEq
def Scl.cells (s : Scl) : List PV := [.int .i64 s.n, .int .i64 s.least, .int .i64 s.most, .int .i64 s.gap]
/-- Leads with how black they can be. -/
structure Bch where
  l : Lds
  lo : Int
  hi : Int
deriving DecidableEq
def Bch.cells (b : Bch) : List PV := b.l.cells ++ [.int .i64 b.lo, .int .i64 b.hi]
def bchV (l : List Bch) : PV := .is (l.flatMap Bch.cells) l.length
def i1 (n : Int) : List PV := [.int .i64 n]
def intsV (l : List Int) : PV := .is (l.flatMap i1) l.length
def spV (p : Int × Int) : PV := .agg [.int .i64 p.1, .int .i64 p.2]
def bigN : Nat := 9223372036854775807

/-! ### What is valid -/
def inB (n lo hi : Int) : Bool := decide (lo ≤ n) && decide (n ≤ hi)
def spB (a b lo hi : Int) : Bool := decide (lo ≤ a) && decide (a ≤ b) && decide (b ≤ hi)
def stepOk (c : List Tnt) (i : Nat) : Prop := (0 ≤ (tn c i).b ∧ (tn c i).b ≤ 200) ∧ (i = 0 ∨ ((tn c (i - 1)).r < (tn c i).r ∧ (tn c (i - 1)).b ≤ (tn c i).b))
instance (c : List Tnt) (i : Nat) : Decidable (stepOk c i) := by unfold stepOk; infer_instance
def okC (c : List Tnt) : Prop := (2 ≤ c.length ∧ c.length ≤ 8) ∧ (tn c 0).r = 0 ∧ (tn c (c.length - 1)).r = 1000 ∧ ∀ i, i < c.length → stepOk c i
instance (c : List Tnt) : Decidable (okC c) := by unfold okC; infer_instance
def stkB (s : Stk) : Bool := spB s.rlo s.rhi 0 1000 && spB s.plo s.phi 1 4000
def okS (s : Stk) : Prop := (0 ≤ s.rlo ∧ s.rlo ≤ s.rhi ∧ s.rhi ≤ 1000) ∧ 1 ≤ s.plo ∧ s.plo ≤ s.phi ∧ s.phi ≤ 4000
theorem stkB_iff (s : Stk) : stkB s = true ↔ okS s := by
  unfold stkB spB okS
  simp [and_assoc]
def ldB (l : Lds) : Bool := spB l.glo l.ghi 1 1073741824 && spB l.clo l.chi 0 1073741824 && inB l.tol 0 200 && (spB l.slo l.shi 0 10000 && spB l.wlo l.whi 0 10000 && inB l.many 0 1048576) && decide (l.st.length ≤ 6) && l.st.all stkB
structure OkL (l : Lds) : Prop where
  g : 1 ≤ l.glo ∧ l.glo ≤ l.ghi ∧ l.ghi ≤ 1073741824
  c : 0 ≤ l.clo ∧ l.clo ≤ l.chi ∧ l.chi ≤ 1073741824
  t : 0 ≤ l.tol ∧ l.tol ≤ 200
  s : 0 ≤ l.slo ∧ l.slo ≤ l.shi ∧ l.shi ≤ 10000
  w : 0 ≤ l.wlo ∧ l.wlo ≤ l.whi ∧ l.whi ≤ 10000
  m : 0 ≤ l.many ∧ l.many ≤ 1048576
  n : l.st.length ≤ 6
  st : ∀ x ∈ l.st, okS x
theorem ldB_iff (l : Lds) : ldB l = true ↔ OkL l := by
  have hs : l.st.all stkB = true ↔ ∀ x ∈ l.st, okS x := by
    rw [List.all_eq_true]
    exact ⟨fun h x hx => (stkB_iff x).1 (h x hx), fun h x hx => (stkB_iff x).2 (h x hx)⟩
  unfold ldB
  simp only [Bool.and_eq_true, hs]
  unfold spB inB
  simp only [Bool.and_eq_true, decide_eq_true_eq]
  constructor
  · rintro ⟨⟨⟨⟨⟨h1, h2⟩, h3⟩, ⟨h4, h5⟩, h6⟩, h7⟩, h8⟩
    exact ⟨⟨h1.1.1, h1.1.2, h1.2⟩, ⟨h2.1.1, h2.1.2, h2.2⟩, h3, ⟨h4.1.1, h4.1.2, h4.2⟩, ⟨h5.1.1, h5.1.2, h5.2⟩, h6, h7, h8⟩
  · intro h
    exact ⟨⟨⟨⟨⟨⟨⟨h.g.1, h.g.2.1⟩, h.g.2.2⟩, ⟨⟨h.c.1, h.c.2.1⟩, h.c.2.2⟩⟩, h.t⟩, ⟨⟨⟨h.s.1, h.s.2.1⟩, h.s.2.2⟩, ⟨⟨h.w.1, h.w.2.1⟩, h.w.2.2⟩⟩, h.m⟩, h.n⟩, h.st⟩
def shdB (s : Shd) : Bool := spB s.blo s.bhi 0 200 && spB s.slo s.shi 0 10000 && spB s.wlo s.whi 0 10000
def sclB (s : Scl) : Bool := inB s.n 1 8 && inB s.most 1 200 && inB s.least 1 s.most && inB s.gap 1 s.least
structure OkZ (s : Scl) : Prop where
  n : 1 ≤ s.n ∧ s.n ≤ 8
  most : 1 ≤ s.most ∧ s.most ≤ 200
  least : 1 ≤ s.least ∧ s.least ≤ s.most
  gap : 1 ≤ s.gap ∧ s.gap ≤ s.least
/-! ### The curve at a ratio -/
def segF (c : List Tnt) (g a : Int) : Nat → Nat → Nat
  | 0, i => i
  | k + 1, i => if (tn c (i + 1)).r * a < 1000 * g then segF c g a k (i + 1) else i
def seg (c : List Tnt) (g a : Int) : Nat := segF c g a (c.length - 2) 0
theorem segF_spec (c : List Tnt) (g a : Int) : ∀ (k i : Nat), i ≤ segF c g a k i ∧ segF c g a k i ≤ i + k ∧ (∀ j, i ≤ j → j < segF c g a k i → (tn c (j + 1)).r * a < 1000 * g) ∧ (segF c g a k i < i + k → 1000 * g ≤ (tn c (segF c g a k i + 1)).r * a)
  | 0, i => ⟨Nat.le_refl _, Nat.le_refl _, fun j h1 h2 => by simp only [segF] at h2; omega, fun h => by simp only [segF] at h; omega⟩
  | k + 1, i => by
    unfold segF
    split
    · rename_i h
      obtain ⟨h1, h2, h3, h4⟩ := segF_spec c g a k (i + 1)
      refine ⟨by omega, by omega, fun j ha hb => ?_, fun h5 => h4 (by omega)⟩
      rcases Nat.lt_or_ge j (i + 1) with h6 | h6
      · obtain rfl : j = i := by omega
        exact h
      · exact h3 j h6 hb
    · rename_i h
      exact ⟨Nat.le_refl _, by omega, fun j ha hb => by omega, fun _ => by omega⟩
theorem okC_mono {c : List Tnt} (h : okC c) : ∀ {i j : Nat}, i ≤ j → j < c.length → (tn c i).r ≤ (tn c j).r ∧ (tn c i).b ≤ (tn c j).b := by
  intro i j hij hj
  induction j with
  | zero => obtain rfl : i = 0 := by omega
            exact ⟨Int.le_refl _, Int.le_refl _⟩
  | succ j ih =>
    rcases Nat.lt_or_ge i (j + 1) with h1 | h1
    · have h2 := ih (by omega) (by omega)
      have h3 := (h.2.2.2 (j + 1) hj).2
      rcases h3 with h3 | h3
      · omega
      · simp only [Nat.add_sub_cancel] at h3
        omega
    · obtain rfl : i = j + 1 := by omega
      exact ⟨Int.le_refl _, Int.le_refl _⟩
theorem okC_b {c : List Tnt} (h : okC c) {i : Nat} (hi : i < c.length) : 0 ≤ (tn c i).b ∧ (tn c i).b ≤ 200 := (h.2.2.2 i hi).1
theorem okC_r {c : List Tnt} (h : okC c) {i : Nat} (hi : i < c.length) : 0 ≤ (tn c i).r ∧ (tn c i).r ≤ 1000 := by
  have h1 := (okC_mono h (Nat.zero_le i) hi).1
  have h2 := (okC_mono h (show i ≤ c.length - 1 by omega) (by have := h.1; omega)).1
  rw [h.2.1] at h1
  rw [h.2.2.1] at h2
  exact ⟨h1, h2⟩
theorem okC_lt {c : List Tnt} (h : okC c) {i : Nat} (hi : i + 1 < c.length) : (tn c i).r < (tn c (i + 1)).r := by
  rcases (h.2.2.2 (i + 1) hi).2 with h3 | h3
  · omega
  · simpa using h3.1
structure SegOk (c : List Tnt) (g cl : Int) : Prop where
  lt : seg c g (g + cl) + 1 < c.length
  bef : ∀ j, j < seg c g (g + cl) → (tn c (j + 1)).r * (g + cl) < 1000 * g
  aft : ∀ j, seg c g (g + cl) ≤ j → j + 2 < c.length → 1000 * g ≤ (tn c (j + 1)).r * (g + cl)
  a0 : 0 ≤ 1000 * g - (tn c (seg c g (g + cl))).r * (g + cl)
  a1 : 1000 * g ≤ (tn c (seg c g (g + cl) + 1)).r * (g + cl)
theorem seg_ok {c : List Tnt} (h : okC c) {g cl : Int} (hg : 1 ≤ g) (hc : 0 ≤ cl) : SegOk c g cl := by
  obtain ⟨h1, h2, h3, h4⟩ := segF_spec c g (g + cl) (c.length - 2) 0
  have hl := h.1
  have e : segF c g (g + cl) (c.length - 2) 0 = seg c g (g + cl) := rfl
  rw [e] at h1 h2 h3 h4
  have hlt : seg c g (g + cl) + 1 < c.length := by omega
  have haft : ∀ j, seg c g (g + cl) ≤ j → j + 2 < c.length → 1000 * g ≤ (tn c (j + 1)).r * (g + cl) := fun j hj hj2 => by
    have h5 := h4 (by omega)
    have h6 := (okC_mono h (show seg c g (g + cl) + 1 ≤ j + 1 by omega) (by omega)).1
    have h7 := Int.mul_le_mul_of_nonneg_right h6 (show 0 ≤ g + cl by omega)
    omega
  refine ⟨hlt, fun j hj => h3 j (Nat.zero_le _) hj, haft, ?_, ?_⟩
  · rcases Nat.eq_zero_or_pos (seg c g (g + cl)) with h5 | h5
    · rw [h5, h.2.1]; omega
    · have h6 := h3 (seg c g (g + cl) - 1) (Nat.zero_le _) (by omega)
      rw [show seg c g (g + cl) - 1 + 1 = seg c g (g + cl) by omega] at h6
      omega
  · rcases Nat.lt_or_ge (seg c g (g + cl) + 2) c.length with h5 | h5
    · exact haft _ (Nat.le_refl _) h5
    · have h6 : seg c g (g + cl) + 1 = c.length - 1 := by omega
      rw [h6, h.2.2.1]; omega
def topI (c : List Tnt) (g cl : Int) : Int :=
  let i := seg c g (g + cl)
  (tn c i).b * ((tn c (i + 1)).r - (tn c i).r) * (g + cl) + ((tn c (i + 1)).b - (tn c i).b) * (1000 * g - (tn c i).r * (g + cl))
def undI (c : List Tnt) (g cl : Int) : Int :=
  let i := seg c g (g + cl)
  ((tn c (i + 1)).r - (tn c i).r) * (g + cl)
theorem mulB {a b A B : Int} (a0 : 0 ≤ a) (a1 : a ≤ A) (b0 : 0 ≤ b) (b1 : b ≤ B) : 0 ≤ a * b ∧ a * b ≤ A * B :=
  ⟨Int.mul_nonneg a0 b0, Int.le_trans (Int.mul_le_mul_of_nonneg_right a1 b0) (Int.mul_le_mul_of_nonneg_left b1 (by omega))⟩
structure FracOk (c : List Tnt) (g cl : Int) : Prop where
  u : 1 ≤ undI c g cl ∧ undI c g cl ≤ 1000 * 2147483648
  t : 0 ≤ topI c g cl ∧ topI c g cl ≤ 200 * undI c g cl
structure FW (ra rb ba bb a g : Int) : Prop where
  p1 : 0 ≤ ba * (rb - ra) ∧ ba * (rb - ra) ≤ 200000
  p2 : 0 ≤ ba * (rb - ra) * a ∧ ba * (rb - ra) * a ≤ 429496729600000
  p3 : 0 ≤ ra * a ∧ ra * a ≤ 2147483648000
  p4 : 0 ≤ (bb - ba) * (1000 * g - ra * a) ∧ (bb - ba) * (1000 * g - ra * a) ≤ 429496729600000
  p5 : 1 ≤ (rb - ra) * a ∧ (rb - ra) * a ≤ 2147483648000
  p6 : 0 ≤ ba * (rb - ra) * a + (bb - ba) * (1000 * g - ra * a) ∧ ba * (rb - ra) * a + (bb - ba) * (1000 * g - ra * a) ≤ 200 * ((rb - ra) * a)
  p7 : 0 ≤ 1000 * g - ra * a
  r : 0 ≤ ra ∧ ra < rb ∧ rb ≤ 1000
  b : 0 ≤ ba ∧ ba ≤ bb ∧ bb ≤ 200
theorem frac_pl {ra rb ba bb a g : Int} (h1 : ra < rb) (h2 : 0 ≤ ra) (h3 : rb ≤ 1000) (h4 : 0 ≤ ba) (h5 : ba ≤ bb) (h6 : bb ≤ 200) (h7 : 1 ≤ a) (h8 : a ≤ 2147483648) (h9 : 0 ≤ 1000 * g - ra * a) (h10 : 1000 * g ≤ rb * a) : FW ra rb ba bb a g := by
  have q1 := mulB (a := ba) (b := rb - ra) (A := 200) (B := 1000) h4 (by omega) (by omega) (by omega)
  have q2 := mulB (a := ba * (rb - ra)) (b := a) (A := 200000) (B := 2147483648) q1.1 q1.2 (by omega) h8
  have q3 := mulB (a := ra) (b := a) (A := 1000) (B := 2147483648) h2 (by omega) (by omega) h8
  have q4 := mulB (a := rb - ra) (b := a) (A := 1000) (B := 2147483648) (by omega) (by omega) (by omega) h8
  have q5 := Int.mul_le_mul (show 1 ≤ rb - ra by omega) h7 (by omega) (by omega)
  have e1 : (rb - ra) * a = rb * a - ra * a := Int.sub_mul _ _ _
  have q6 : 1000 * g - ra * a ≤ (rb - ra) * a := by omega
  have q7 := mulB (a := bb - ba) (b := 1000 * g - ra * a) (A := bb - ba) (B := (rb - ra) * a) (by omega) (Int.le_refl _) h9 q6
  have q8 := mulB (a := bb - ba) (b := (rb - ra) * a) (A := 200) (B := 2147483648000) (by omega) (by omega) q4.1 (by omega)
  have e2 : ba * (rb - ra) * a = ba * ((rb - ra) * a) := Int.mul_assoc _ _ _
  have e3 : ba * ((rb - ra) * a) + (bb - ba) * ((rb - ra) * a) = bb * ((rb - ra) * a) := by rw [← Int.add_mul]; congr 1; omega
  have q9 := Int.mul_le_mul_of_nonneg_right h6 q4.1
  refine ⟨⟨q1.1, by omega⟩, ⟨q2.1, by omega⟩, ⟨q3.1, by omega⟩, ⟨q7.1, by omega⟩, ⟨by omega, by omega⟩, ⟨by omega, by omega⟩, h9, ⟨h2, h1, h3⟩, h4, h5, h6⟩
theorem frac_walk {c : List Tnt} (h : okC c) {g cl : Int} (hg : 1 ≤ g) (hg2 : g ≤ 1073741824) (hc : 0 ≤ cl) (hc2 : cl ≤ 1073741824) {i : Nat} (hi : i = seg c g (g + cl)) : FW (tn c i).r (tn c (i + 1)).r (tn c i).b (tn c (i + 1)).b (g + cl) g := by
  have q := seg_ok h hg hc
  exact frac_pl (a := g + cl) (g := g) (okC_lt h (hi ▸ q.lt)) (okC_r h (i := i) (by have := q.lt; omega)).1 (okC_r h (i := i + 1) (hi ▸ q.lt)).2 (okC_b h (i := i) (by have := q.lt; omega)).1 (okC_mono h (Nat.le_succ i) (hi ▸ q.lt)).2 (okC_b h (i := i + 1) (hi ▸ q.lt)).2 (by omega) (by omega) (hi ▸ q.a0) (hi ▸ q.a1)
theorem frac_ok {c : List Tnt} (h : okC c) {g cl : Int} (hg : 1 ≤ g) (hg2 : g ≤ 1073741824) (hc : 0 ≤ cl) (hc2 : cl ≤ 1073741824) : FracOk c g cl := by
  have q := frac_walk h hg hg2 hc hc2 rfl
  exact ⟨⟨q.p5.1, Int.le_trans q.p5.2 (by decide)⟩, q.p6⟩

/-! ### Rounding -/
def upI (t u : Int) : Int := (t + u - 1) / u
def dnI (t u : Int) : Int := t / u
theorem upI_iff {t u n : Int} (hu : 0 < u) : upI t u ≤ n ↔ t ≤ n * u := by
  have h := Int.le_ediv_iff_mul_le (a := n + 1) (b := t + u - 1) hu
  have e : (n + 1) * u = n * u + u := by rw [Int.add_mul, Int.one_mul]
  unfold upI
  constructor
  · intro h1
    have : ¬ (n + 1 ≤ (t + u - 1) / u) := by omega
    rw [h] at this
    omega
  · intro h1
    have : ¬ ((n + 1) * u ≤ t + u - 1) := by omega
    rw [← h] at this
    omega
theorem upI_B {t u B : Int} (h1 : 1 ≤ u) (h2 : 0 ≤ t) (h3 : t ≤ B * u) : 0 ≤ upI t u ∧ upI t u ≤ B := by
  refine ⟨?_, (upI_iff (by omega)).2 h3⟩
  unfold upI
  exact Int.ediv_nonneg (by omega) (by omega)
theorem dnI_B {t u B : Int} (h1 : 1 ≤ u) (h2 : 0 ≤ t) (h3 : t ≤ B * u) : 0 ≤ dnI t u ∧ dnI t u ≤ B := by
  unfold dnI
  refine ⟨Int.ediv_nonneg h2 (by omega), ?_⟩
  have := Int.ediv_le_ediv (show 0 < u by omega) h3
  rwa [Int.mul_ediv_cancel _ (by omega)] at this

/-! ### How black leads can be -/
def recB (c : List Tnt) (l : Lds) : Int × Int := (upI (topI c l.glo l.chi) (undI c l.glo l.chi) - l.tol, dnI (topI c l.ghi l.clo) (undI c l.ghi l.clo) + l.tol)
def stkBd (s : Stk) : Int × Int := (upI (1000 * s.rlo) s.phi, dnI (1000 * s.rhi) s.plo)
def meet (o b : Int × Int) : Int × Int := (max o.1 b.1, min o.2 b.2)
def srcs (c : List Tnt) (l : Lds) : List (Int × Int) := recB c l :: l.st.map stkBd
def meets (bs : List (Int × Int)) : Int × Int := bs.foldl meet (0, 200)
def blk (c : List Tnt) (l : Lds) : Int × Int := meets (srcs c l)
theorem meets_take {bs : List (Int × Int)} {k : Nat} (h : k < bs.length) : meets (bs.take (k + 1)) = meet (meets (bs.take k)) bs[k] := by
  unfold meets
  rw [List.take_succ_eq_append_getElem h, List.foldl_append]; rfl
theorem srcs_length (c : List Tnt) (l : Lds) : (srcs c l).length = l.st.length + 1 := by simp [srcs]
/-- Is a blackness that of a truth? -/
def holdsI (c : List Tnt) (l : Lds) (n : Int) : Prop :=
  (topI c l.glo l.chi ≤ (n + l.tol) * undI c l.glo l.chi ∧ n * undI c l.ghi l.clo ≤ topI c l.ghi l.clo + l.tol * undI c l.ghi l.clo) ∧ ∀ s ∈ l.st, n * s.plo ≤ 1000 * s.rhi ∧ 1000 * s.rlo ≤ n * s.phi
instance (c : List Tnt) (l : Lds) (n : Int) : Decidable (holdsI c l n) := by unfold holdsI; infer_instance
theorem not_any_not {α : Type} (p : α → Bool) (xs : List α) : (!xs.any fun x => !p x) = xs.all p := by
  rw [List.all_eq_not_any_not]
theorem len6 (n : Nat) : decide ((n : Int) ≤ 6) = decide (n ≤ 6) := decide_eq_decide.2 (by omega)
end Go.Proofs.YtbnemnhmejmeeaaGreatDoor.Sh
end

section
set_option linter.unusedVariables false
set_option linter.unusedSimpArgs false
namespace Go.Proofs.YtbnemnhmejmeeaaGreatDoor.Sh
open Go.AF
theorem divB {a b : Int} (ha : 0 ≤ a) (hb : 1 ≤ b) : Int.tdiv a b = a / b ∧ 0 ≤ a / b ∧ a / b ≤ a :=
  ⟨Int.tdiv_eq_ediv_of_nonneg ha, Int.ediv_nonneg ha (by omega), Int.ediv_le_self b ha⟩
/-- What says how black leads can be: none: the recipe; some: a stroke. -/
def srcV (c : List Tnt) (l : Lds) : Option Stk → PV
  | none => .iface 179 (.agg (curV c :: l.cells))
  | some s => .iface 182 (.agg s.cells)
def srcC (c : List Tnt) (l : Lds) (x : Option Stk) : List PV := [srcV c l x]
def srcL (l : Lds) (g : Nat) : List (Option Stk) := none :: (l.st.take g).map some
def srcB (c : List Tnt) (l : Lds) : Option Stk → Int × Int
  | none => recB c l
  | some s => stkBd s
theorem srcC_len (c : List Tnt) (l : Lds) : ∀ x, (srcC c l x).length = 1 := fun _ => rfl
theorem srcL_length (l : Lds) (g : Nat) (h : g ≤ l.st.length) : (srcL l g).length = g + 1 := by
  unfold srcL
  rw [List.length_cons, List.length_map, List.length_take_of_le h]
theorem srcL_succ {l : Lds} {g : Nat} (h : g < l.st.length) : srcL l (g + 1) = srcL l g ++ [some l.st[g]] := by
  unfold srcL
  rw [List.take_succ_eq_append_getElem h, List.map_append]; rfl
def srcAt (l : Lds) (i : Nat) : Option Stk := (srcL l l.st.length).getD i none
theorem srcL_get (l : Lds) : ∀ k (h : k < (srcL l l.st.length).length), (srcL l l.st.length)[k] = srcAt l k := fun k h => by
  unfold srcAt
  rw [List.getD_eq_getElem?_getD, List.getElem?_eq_getElem h]; rfl
theorem srcs_eq (c : List Tnt) (l : Lds) : srcs c l = (srcL l l.st.length).map (srcB c l) := by
  unfold srcs srcL
  rw [List.take_length, List.map_cons, List.map_map]; rfl
def blkN (c : List Tnt) (l : Lds) (k : Nat) : Int × Int := meets ((srcs c l).take k)
theorem blkN_succ {c : List Tnt} {l : Lds} {k : Nat} (h : k < l.st.length + 1) : blkN c l (k + 1) = meet (blkN c l k) (srcB c l (srcAt l k)) := by
  unfold blkN
  rw [meets_take (by rw [srcs_length]; exact h)]
  congr 1
  have e := srcs_eq c l
  have h2 : k < (srcL l l.st.length).length := by rw [srcL_length l _ (Nat.le_refl _)]; exact h
  have e2 : (srcs c l)[k]'(by rw [srcs_length]; exact h) = ((srcL l l.st.length).map (srcB c l))[k]'(by simpa using h2) := by congr 1
  rw [e2, List.getElem_map, srcL_get l k h2]
theorem blkN_all (c : List Tnt) (l : Lds) : blkN c l (l.st.length + 1) = blk c l := by
  unfold blkN blk
  rw [List.take_of_length_le (by rw [srcs_length]; exact Nat.le_refl _)]
def blkB (c : List Tnt) (l : Lds) : Bool := decide ((blk c l).1 ≤ (blk c l).2)
/-- The other text's span, of the first numbers. -/
def spanF (c : List Tnt) (l : Lds) (g : Nat) : Bool := decide ((blk c l).1 ≤ (blk c l).2 ∧ (blk c l).1 < (g : Int))
def spanN (c : List Tnt) (l : Lds) (g : Nat) : Int × Int := if spanF c l g then ((blk c l).1, min (blk c l).2 ((g : Int) - 1)) else (0, 0)
theorem srcAt_mem {l : Lds} {k : Nat} {s : Stk} (h : srcAt l k = some s) : s ∈ l.st := by
  unfold srcAt at h
  rw [List.getD_eq_getElem?_getD] at h
  cases e : (srcL l l.st.length)[k]? with
  | none => rw [e] at h; cases h
  | some y =>
    rw [e] at h
    obtain rfl : y = some s := h
    have := List.mem_of_getElem? e
    unfold srcL at this
    simpa using this
structure RecW (c : List Tnt) (g cl : Int) : Prop where
  u : 0 ≤ upI (topI c g cl) (undI c g cl) ∧ upI (topI c g cl) (undI c g cl) ≤ 200
  d : 0 ≤ dnI (topI c g cl) (undI c g cl) ∧ dnI (topI c g cl) (undI c g cl) ≤ 200
theorem rec_ok {c : List Tnt} (h : okC c) {g cl : Int} (hg : 1 ≤ g) (hg2 : g ≤ 1073741824) (hc : 0 ≤ cl) (hc2 : cl ≤ 1073741824) : RecW c g cl := by
  have q := frac_ok h hg hg2 hc hc2
  exact ⟨upI_B q.u.1 q.t.1 q.t.2, dnI_B q.u.1 q.t.1 q.t.2⟩

theorem ldB_st_false {l : Lds} {s : Stk} (hs : s ∈ l.st) (h : stkB s = false) : ldB l = false := by
  unfold ldB
  have : l.st.all stkB = false := by
    rw [Bool.eq_false_iff]
    intro h2
    rw [List.all_eq_true.1 h2 s hs] at h
    cases h
  rw [this, Bool.and_false]
theorem ldB_st_true {l : Lds} (h : ∀ x ∈ l.st, stkB x = true) : ldB l = (decide (l.st.length ≤ 6) && spB l.glo l.ghi 1 1073741824 && spB l.clo l.chi 0 1073741824 && inB l.tol 0 200 && spB l.slo l.shi 0 10000 && spB l.wlo l.whi 0 10000 && inB l.many 0 1048576) := by
  unfold ldB
  rw [List.all_eq_true.2 h]
  cases spB l.glo l.ghi 1 1073741824 <;> cases spB l.clo l.chi 0 1073741824 <;> cases inB l.tol 0 200 <;> cases spB l.slo l.shi 0 10000 <;> cases spB l.wlo l.whi 0 10000 <;> cases inB l.many 0 1048576 <;> cases decide (l.st.length ≤ 6) <;> rfl
theorem all_false {α : Type} {p : α → Bool} {xs : List α} {x : α} (hx : x ∈ xs) (h : p x = false) : xs.all p = false := by
  rw [Bool.eq_false_iff]
  intro h2
  rw [List.all_eq_true.1 h2 x hx] at h
  cases h
/-! ### Errors -/
def okAll (ls : List Lds) : Bool := ls.all ldB
def openE (c : List Tnt) (ls : List Lds) (most : Int) (valid : Bool) : Int :=
  if ¬ okC c then 1 else if most < ls.length then 3 else if (!valid || ls.any fun l => !ldB l) = true then 2 else if (ls.any fun l => !blkB c l) = true then 6 else 0
def toB (c : List Tnt) (l : Lds) : Bch := ⟨l, (blk c l).1, (blk c l).2⟩
def openL (c : List Tnt) (ls : List Lds) (most : Int) (valid : Bool) : List Bch := if openE c ls most valid = 0 then ls.map (toB c) else []
structure Opn (c : List Tnt) (ls : List Lds) (most : Int) (valid : Bool) : Prop where
  oc : okC c
  on : (ls.length : Int) ≤ most
  ov : valid = true
  ol : ∀ l ∈ ls, OkL l
  ob : ∀ l ∈ ls, (blk c l).1 ≤ (blk c l).2
theorem any_not {α : Type} {p : α → Bool} {xs : List α} : (xs.any fun x => !p x) = false ↔ ∀ x ∈ xs, p x = true := by
  rw [List.any_eq_false]
  simp
theorem openE_zero {c : List Tnt} {ls : List Lds} {most : Int} {valid : Bool} : openE c ls most valid = 0 ↔ Opn c ls most valid := by
  unfold openE
  constructor
  · intro h
    split at h; · omega
    split at h; · omega
    split at h; · omega
    split at h; · omega
    rename_i h1 h2 h3 h4
    simp only [Bool.or_eq_true, not_or, Bool.not_eq_true] at h3 h4
    rw [any_not] at h3 h4
    exact ⟨Classical.not_not.1 h1, by omega, by simpa using h3.1, fun l hl => (ldB_iff l).1 (h3.2 l hl), fun l hl => of_decide_eq_true (h4 l hl)⟩
  · intro h
    rw [if_neg (fun k => k h.oc), if_neg (by have := h.on; omega), if_neg (by
      rw [h.ov]
      simp only [Bool.not_true, Bool.false_or, Bool.not_eq_true]
      exact any_not.2 fun l hl => (ldB_iff l).2 (h.ol l hl)), if_neg (by
      simp only [Bool.not_eq_true]
      exact any_not.2 fun l hl => decide_eq_true (h.ob l hl))]
theorem any_not_at {α : Type} {p : α → Bool} {xs : List α} {x : α} (hx : x ∈ xs) (h : p x = false) : (xs.any fun x => !p x) = true :=
  List.any_eq_true.2 ⟨x, hx, by rw [h]; rfl⟩
theorem openL_one {c : List Tnt} {l : Lds} {most : Int} {valid : Bool} (e : openE c [l] most valid = 0) : openL c [l] most valid = [toB c l] := by
  unfold openL
  rw [e]; rfl
/-- Black: the span and the error. -/
def blackR (c : List Tnt) (l : Lds) : (Int × Int) × Int := if openE c [l] 1 true = 0 then (blk c l, 0) else ((0, 0), openE c [l] 1 true)
def hasQ (c : List Tnt) (s : Shd) (l : Lds) : Bool := decide (s.blo ≤ (blk c l).1 ∧ (blk c l).2 ≤ s.bhi ∧ s.slo ≤ l.slo ∧ l.shi ≤ s.shi ∧ s.wlo ≤ l.wlo ∧ l.whi ≤ s.whi)
/-- The indices at which a predicate holds, of the first ones. -/
def idxs (p : Nat → Bool) : Nat → List Int
  | 0 => []
  | n + 1 => if p n then idxs p n ++ [(n : Int)] else idxs p n
theorem idxs_len (p : Nat → Bool) : ∀ n, (idxs p n).length ≤ n
  | 0 => Nat.le_refl _
  | n + 1 => by
    have := idxs_len p n
    unfold idxs
    split
    · rw [List.length_append]; simp; omega
    · omega
def sh (s : List Shd) (i : Nat) : Shd := s.getD i ⟨0, 0, 0, 0, 0, 0⟩
theorem sh_get {s : List Shd} {i : Nat} (h : i < s.length) : s[i] = sh s i := by
  unfold sh
  rw [List.getD_eq_getElem?_getD, List.getElem?_eq_getElem h]; rfl
def hasE (c : List Tnt) (s : List Shd) (l : Lds) : Int := if okC c ∧ 8 < s.length then 3 else openE c [l] 1 (!s.any fun x => !shdB x)
def hasR (c : List Tnt) (s : List Shd) (l : Lds) : List Int × Int := if hasE c s l = 0 then (idxs (fun i => hasQ c (sh s i) l) s.length, 0) else ([], hasE c s l)
def ownS (c : List Tnt) (l : Lds) : Shd := ⟨(blk c l).1, (blk c l).2, l.slo, l.shi, l.wlo, l.whi⟩
def grtB (c : List Tnt) (ls : List Lds) : Bool := (ls.any fun l => decide (12 < l.st.length)) || (decide (14 < c.length) || decide (16 < ls.length))
def ld (l : List Lds) (i : Nat) : Lds := l.getD i ⟨0, 0, 0, 0, 0, [], 0, 0, 0, 0, 0⟩
theorem ld_get {l : List Lds} {i : Nat} (h : i < l.length) : l[i] = ld l i := by
  unfold ld
  rw [List.getD_eq_getElem?_getD, List.getElem?_eq_getElem h]; rfl
theorem ld_mem {l : List Lds} {i : Nat} (h : i < l.length) : ld l i ∈ l := by rw [← ld_get h]; exact List.getElem_mem _
def stk (l : List Stk) (i : Nat) : Stk := l.getD i ⟨0, 0, 0, 0⟩
theorem stk_get {l : List Stk} {i : Nat} (h : i < l.length) : l[i] = stk l i := by
  unfold stk
  rw [List.getD_eq_getElem?_getD, List.getElem?_eq_getElem h]; rfl
theorem stk_mem {l : List Stk} {i : Nat} (h : i < l.length) : stk l i ∈ l := by rw [← stk_get h]; exact List.getElem_mem _
def bc (l : List Bch) (i : Nat) : Bch := l.getD i ⟨⟨0, 0, 0, 0, 0, [], 0, 0, 0, 0, 0⟩, 0, 0⟩
theorem bc_get {l : List Bch} {i : Nat} (h : i < l.length) : l[i] = bc l i := by
  unfold bc
  rw [List.getD_eq_getElem?_getD, List.getElem?_eq_getElem h]; rfl
def nt (l : List Int) (i : Nat) : Int := l.getD i 0
theorem nt_get {l : List Int} {i : Nat} (h : i < l.length) : l[i] = nt l i := by
  unfold nt
  rw [List.getD_eq_getElem?_getD, List.getElem?_eq_getElem h]; rfl
theorem nt_ext {a b : List Int} (hl : a.length = b.length) (h : ∀ j, j < a.length → nt a j = nt b j) : a = b := by
  apply List.ext_getElem hl
  intro i h1 h2
  rw [nt_get h1, nt_get h2]
  exact h i h1
end Go.Proofs.YtbnemnhmejmeeaaGreatDoor.Sh
end

section
set_option linter.unusedVariables false
set_option linter.unusedSimpArgs false
namespace Go.Proofs.YtbnemnhmejmeeaaGreatDoor.Sh
open Go.AF
def pairX (n : Nat) : List (List V) := (List.range (n * n)).map fun j => [V.p (.int .i64 ((j / n : Nat) : Int)), V.p (.int .i64 ((j % n : Nat) : Int))]
/-- The first of so many at which a predicate holds. -/
def fstN (p : Nat → Bool) : Nat → Option Nat
  | 0 => none
  | n + 1 => match fstN p n with
    | some j => some j
    | none => if p n then some n else none
def ordV (ls : List Lds) (nms : List Int) (gap : Int) : Bool := decide (nms.length = ls.length) && inB gap 0 200 && nms.all fun n => inB n 0 7
def wrongB (c : List Tnt) (ls : List Lds) (nms : List Int) (gap : Int) (i k : Nat) : Bool := decide (nt nms i < nt nms k) && decide ((blk c (ld ls i)).2 + gap > (blk c (ld ls k)).1)
def wrongJ (c : List Tnt) (ls : List Lds) (nms : List Int) (gap : Int) (j : Nat) : Bool := wrongB c ls nms gap (j / ls.length) (j % ls.length)
def ordR (c : List Tnt) (ls : List Lds) (nms : List Int) (gap : Int) : Int × Int × Int :=
  if openE c ls 10 (ordV ls nms gap) = 0 then (match fstN (wrongJ c ls nms gap) (ls.length * ls.length) with
    | some j => (((j / ls.length : Nat) : Int), ((j % ls.length : Nat) : Int), 0)
    | none => (0, 0, 4)) else (0, 0, openE c ls 10 (ordV ls nms gap))
end Go.Proofs.YtbnemnhmejmeeaaGreatDoor.Sh
end

section
set_option linter.unusedVariables false
namespace Go.Proofs.YtbnemnhmejmeeaaGreatDoor.Sh
open Go.AF
theorem tn_of {el : List PV} (h : TyL [.leaf (.int .i64), .leaf (.int .i64)] el) : ∃ t : Tnt, el = t.cells := by
  obtain ⟨xs, h1, h2⟩ := ints_of (n := 2) h
  match xs, h1 with
  | [a, b], _ => exact ⟨⟨a, b⟩, h2⟩
theorem stk_of {el : List PV} (h : TyL [.leaf (.int .i64), .leaf (.int .i64), .leaf (.int .i64), .leaf (.int .i64)] el) : ∃ t : Stk, el = t.cells := by
  obtain ⟨xs, h1, h2⟩ := ints_of (n := 4) h
  match xs, h1 with
  | [a, b, c, d], _ => exact ⟨⟨a, b, c, d⟩, h2⟩
theorem shd_of {el : List PV} (h : TyL [.leaf (.int .i64), .leaf (.int .i64), .leaf (.int .i64), .leaf (.int .i64), .leaf (.int .i64), .leaf (.int .i64)] el) : ∃ t : Shd, el = t.cells := by
  obtain ⟨xs, h1, h2⟩ := ints_of (n := 6) h
  match xs, h1 with
  | [a, b, c, d, e, f], _ => exact ⟨⟨a, b, c, d, e, f⟩, h2⟩
theorem one_of_int {x : PV} (h : Ty (.leaf (.int .i64)) x) : ∃ n : Int, x = .int .i64 n := by
  cases h with
  | int _ n _ => exact ⟨n, rfl⟩
theorem ld_of {el : List PV} (h : TyL [.leaf (.int .i64), .leaf (.int .i64), .leaf (.int .i64), .leaf (.int .i64), .leaf (.int .i64), .sl [.leaf (.int .i64), .leaf (.int .i64), .leaf (.int .i64), .leaf (.int .i64)], .leaf (.int .i64), .leaf (.int .i64), .leaf (.int .i64), .leaf (.int .i64), .leaf (.int .i64)] el) : ∃ l : Lds, el = l.cells ∧ l.st.length ≤ bigN := by
  cases h with | cons _ _ x0 _ a0 h =>
  cases h with | cons _ _ x1 _ a1 h =>
  cases h with | cons _ _ x2 _ a2 h =>
  cases h with | cons _ _ x3 _ a3 h =>
  cases h with | cons _ _ x4 _ a4 h =>
  cases h with | cons _ _ x5 _ a5 h =>
  cases h with | cons _ _ x6 _ a6 h =>
  cases h with | cons _ _ x7 _ a7 h =>
  cases h with | cons _ _ x8 _ a8 h =>
  cases h with | cons _ _ x9 _ a9 h =>
  cases h with | cons _ _ y0 _ b0 h =>
  cases h
  obtain ⟨n0, rfl⟩ := one_of_int a0
  obtain ⟨n1, rfl⟩ := one_of_int a1
  obtain ⟨n2, rfl⟩ := one_of_int a2
  obtain ⟨n3, rfl⟩ := one_of_int a3
  obtain ⟨n4, rfl⟩ := one_of_int a4
  obtain ⟨n6, rfl⟩ := one_of_int a6
  obtain ⟨n7, rfl⟩ := one_of_int a7
  obtain ⟨n8, rfl⟩ := one_of_int a8
  obtain ⟨n9, rfl⟩ := one_of_int a9
  obtain ⟨m0, rfl⟩ := one_of_int b0
  obtain ⟨l, e1, e2⟩ := sl_of (f := Stk.cells) (fun el => stk_of) (.cons _ _ _ _ a5 .nil)
  simp only [List.cons.injEq, and_true] at e1
  subst e1
  exact ⟨⟨n0, n1, n2, n3, n4, l, n6, n7, n8, n9, m0⟩, rfl, e2⟩
theorem lds_of {x : List PV} (h : TyL [.sl [.leaf (.int .i64), .leaf (.int .i64), .leaf (.int .i64), .leaf (.int .i64), .leaf (.int .i64), .sl [.leaf (.int .i64), .leaf (.int .i64), .leaf (.int .i64), .leaf (.int .i64)], .leaf (.int .i64), .leaf (.int .i64), .leaf (.int .i64), .leaf (.int .i64), .leaf (.int .i64)]] x) : ∃ l : List Lds, x = [ldsV l] ∧ l.length ≤ bigN ∧ ∀ y ∈ l, y.st.length ≤ bigN := by
  obtain ⟨l, e1, e2⟩ := sl_of (α := { y : Lds // y.st.length ≤ bigN }) (f := fun y => y.1.cells) (fun el h => by
    obtain ⟨l, h1, h2⟩ := ld_of h
    exact ⟨⟨l, h2⟩, h1⟩) h
  refine ⟨l.map (·.1), ?_, by rw [List.length_map]; exact e2, fun y hy => ?_⟩
  · rw [e1]
    unfold ldsV
    rw [List.flatMap_map, List.length_map]
  · obtain ⟨z, _, rfl⟩ := List.mem_map.1 hy
    exact z.2
theorem cur_of {x : List PV} (h : TyL [.sl [.leaf (.int .i64), .leaf (.int .i64)]] x) : ∃ c : List Tnt, x = [curV c] ∧ c.length ≤ bigN :=
  sl_of (f := Tnt.cells) (fun el => tn_of) h
theorem shds_of {x : List PV} (h : TyL [.sl [.leaf (.int .i64), .leaf (.int .i64), .leaf (.int .i64), .leaf (.int .i64), .leaf (.int .i64), .leaf (.int .i64)]] x) : ∃ c : List Shd, x = [shdV c] ∧ c.length ≤ bigN :=
  sl_of (f := Shd.cells) (fun el => shd_of) h
theorem hasR_len (c : List Tnt) (s : List Shd) (l : Lds) : (hasR c s l).1.length ≤ s.length := by
  unfold hasR
  split
  · exact idxs_len _ _
  · exact Nat.zero_le _
structure BlkOk (c : List Tnt) (l : Lds) : Prop where
  oc : okC c
  ol : OkL l
  ob : 0 ≤ (blk c l).1 ∧ (blk c l).1 ≤ (blk c l).2 ∧ (blk c l).2 ≤ 200
end Go.Proofs.YtbnemnhmejmeeaaGreatDoor.Sh
end
