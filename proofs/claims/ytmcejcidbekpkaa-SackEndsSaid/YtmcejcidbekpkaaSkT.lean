/-
  The plain law of SackTrue: whatever is true lies within the spans. No program in sight.
-/
import Derived.Test.YtmcejcidbekpkaaSkN
set_option linter.unusedVariables false
set_option linter.unusedSimpArgs false
set_option linter.unusedSectionVars false
namespace Go.Proofs.Ytmcejcidbekpkaa
open Go.AF

/-! ### Numbers that hang on each of three linearly: their ends are at corners -/
def Aff (g : Int → Int) : Prop := ∃ A B : Int, ∀ x, g x = A * x + B
theorem Aff.const (c : Int) : Aff (fun _ => c) := ⟨0, c, fun x => by dsimp only; omega⟩
theorem Aff.id_ : Aff (fun x => x) := ⟨1, 0, fun x => by dsimp only; omega⟩
theorem Aff.add {f g : Int → Int} : Aff f → Aff g → Aff (fun x => f x + g x) := fun ⟨A, B, h⟩ ⟨C, D, k⟩ => ⟨A + C, B + D, fun x => by dsimp only; rw [h, k, Int.add_mul]; omega⟩
theorem Aff.sub {f g : Int → Int} : Aff f → Aff g → Aff (fun x => f x - g x) := fun ⟨A, B, h⟩ ⟨C, D, k⟩ => ⟨A - C, B - D, fun x => by dsimp only; rw [h, k, Int.sub_mul]; omega⟩
theorem Aff.mulr {f : Int → Int} (c : Int) : Aff f → Aff (fun x => f x * c) := fun ⟨A, B, h⟩ => ⟨A * c, B * c, fun x => by dsimp only; rw [h, Int.add_mul, Int.mul_assoc, Int.mul_comm x c, ← Int.mul_assoc]⟩
theorem Aff.mull {f : Int → Int} (c : Int) : Aff f → Aff (fun x => c * f x) := fun h => by
  have := h.mulr c
  simpa only [Int.mul_comm] using this
theorem Aff.lo {g : Int → Int} (h : Aff g) {a x b : Int} (h1 : a ≤ x) (h2 : x ≤ b) : g a ≤ g x ∨ g b ≤ g x := by
  obtain ⟨A, B, h⟩ := h
  rw [h, h, h]
  rcases Int.le_total 0 A with hA | hA
  · left
    have := Int.mul_le_mul_of_nonneg_left h1 hA
    omega
  · right
    have := Int.mul_le_mul_of_nonpos_left hA h2
    omega
theorem Aff.hi {g : Int → Int} (h : Aff g) {a x b : Int} (h1 : a ≤ x) (h2 : x ≤ b) : g x ≤ g a ∨ g x ≤ g b := by
  obtain ⟨A, B, h⟩ := h
  rw [h, h, h]
  rcases Int.le_total 0 A with hA | hA
  · right
    have := Int.mul_le_mul_of_nonneg_left h2 hA
    omega
  · left
    have := Int.mul_le_mul_of_nonpos_left hA h1
    omega
structure Tri (f : Int → Int → Int → Int) : Prop where
  w : ∀ c l, Aff (fun w => f w c l)
  c : ∀ w l, Aff (fun c => f w c l)
  l : ∀ w c, Aff (fun l => f w c l)
theorem Tri.drops : Tri dropsF := ⟨fun c l => (Aff.id_.mulr 1000).mulr 1000, fun w l => Aff.const _, fun w c => Aff.const _⟩
theorem Tri.coal : Tri coalF := ⟨fun c l => (((Aff.const 1000).sub Aff.id_).mulr c).mulr 1000, fun w l => (Aff.id_.mull (1000 - w)).mulr 1000, fun w c => Aff.const _⟩
theorem Tri.smoke : Tri smokeF := ⟨fun c l => (((Aff.const 1000).sub Aff.id_).mulr (1000 - c)).mulr l, fun w l => (((Aff.const 1000).sub Aff.id_).mull (1000 - w)).mulr l, fun w c => Aff.id_.mull _⟩
theorem Tri.baked : Tri bakedF := ⟨fun c l => (((Aff.const 1000).sub Aff.id_).mulr (1000 - c)).mulr (1000 - l), fun w l => (((Aff.const 1000).sub Aff.id_).mull (1000 - w)).mulr (1000 - l), fun w c => ((Aff.const 1000).sub Aff.id_).mull _⟩
theorem Tri.lead : Tri leadF := ⟨fun c l => (Tri.coal.w c l).add (Tri.baked.w c l), fun w l => (Tri.coal.c w l).add (Tri.baked.c w l), fun w c => (Tri.coal.l w c).add (Tri.baked.l w c)⟩
theorem Tri.over (n : Int) : Tri (overF n) := ⟨fun c l => ((Tri.coal.w c l).mull 1000).sub ((Tri.lead.w c l).mull n), fun w l => ((Tri.coal.c w l).mull 1000).sub ((Tri.lead.c w l).mull n), fun w c => ((Tri.coal.l w c).mull 1000).sub ((Tri.lead.l w c).mull n)⟩
theorem Tri.lack (n : Int) : Tri (fun w _ _ => n - w) := ⟨fun c l => (Aff.const n).sub Aff.id_, fun w l => Aff.const _, fun w c => Aff.const _⟩
theorem Tri.of (k : Int) : Tri (ofF k) := by
  have e : ofF k = if k = 0 then dropsF else if k = 1 then coalF else if k = 2 then smokeF else if k = 3 then bakedF else leadF := by
    funext w c l
    unfold ofF
    repeat (first | rfl | split)
  rw [e]
  repeat' split
  · exact Tri.drops
  · exact Tri.coal
  · exact Tri.smoke
  · exact Tri.baked
  · exact Tri.lead
theorem corner_at (s : Sk) {a b c : Int} (h1 : a = s.w.lo ∨ a = s.w.hi) (h2 : b = s.c.lo ∨ b = s.c.hi) (h3 : c = s.l.lo ∨ c = s.l.hi) : ∃ k, k < 8 ∧ s.cw k = a ∧ s.cc k = b ∧ s.cl k = c := by
  rcases h1 with rfl | rfl <;> rcases h2 with rfl | rfl <;> rcases h3 with rfl | rfl
  · exact ⟨0, by omega, rfl, rfl, rfl⟩
  · exact ⟨4, by omega, rfl, rfl, rfl⟩
  · exact ⟨2, by omega, rfl, rfl, rfl⟩
  · exact ⟨6, by omega, rfl, rfl, rfl⟩
  · exact ⟨1, by omega, rfl, rfl, rfl⟩
  · exact ⟨5, by omega, rfl, rfl, rfl⟩
  · exact ⟨3, by omega, rfl, rfl, rfl⟩
  · exact ⟨7, by omega, rfl, rfl, rfl⟩
structure Cn where
  w : Int
  c : Int
  l : Int
def Cn.cells (x : Cn) : List PV := [.int .i64 x.w, .int .i64 x.c, .int .i64 x.l]
def inSk (s : Sk) (x : Cn) : Prop := (s.w.lo ≤ x.w ∧ x.w ≤ s.w.hi) ∧ (s.c.lo ≤ x.c ∧ x.c ≤ s.c.hi) ∧ (s.l.lo ≤ x.l ∧ x.l ≤ s.l.hi)
theorem tri_lo {f : Int → Int → Int → Int} (hf : Tri f) {s : Sk} {x : Cn} (h : inSk s x) : fLo f s ≤ f x.w x.c x.l := by
  obtain ⟨⟨w1, w2⟩, ⟨c1, c2⟩, l1, l2⟩ := h
  obtain ⟨a, ha, g1⟩ : ∃ a, (a = s.w.lo ∨ a = s.w.hi) ∧ f a x.c x.l ≤ f x.w x.c x.l := by
    rcases (hf.w x.c x.l).lo w1 w2 with h | h
    · exact ⟨_, .inl rfl, h⟩
    · exact ⟨_, .inr rfl, h⟩
  obtain ⟨b, hb, g2⟩ : ∃ b, (b = s.c.lo ∨ b = s.c.hi) ∧ f a b x.l ≤ f a x.c x.l := by
    rcases (hf.c a x.l).lo c1 c2 with h | h
    · exact ⟨_, .inl rfl, h⟩
    · exact ⟨_, .inr rfl, h⟩
  obtain ⟨c, hc, g3⟩ : ∃ c, (c = s.l.lo ∨ c = s.l.hi) ∧ f a b c ≤ f a b x.l := by
    rcases (hf.l a b).lo l1 l2 with h | h
    · exact ⟨_, .inl rfl, h⟩
    · exact ⟨_, .inr rfl, h⟩
  obtain ⟨k, hk, e1, e2, e3⟩ := corner_at s ha hb hc
  have := mnF_le (fun k => f (s.cw k) (s.cc k) (s.cl k)) 8 k hk
  rw [e1, e2, e3] at this
  unfold fLo
  omega
theorem tri_hi {f : Int → Int → Int → Int} (hf : Tri f) {s : Sk} {x : Cn} (h : inSk s x) : f x.w x.c x.l ≤ fHi f s := by
  obtain ⟨⟨w1, w2⟩, ⟨c1, c2⟩, l1, l2⟩ := h
  obtain ⟨a, ha, g1⟩ : ∃ a, (a = s.w.lo ∨ a = s.w.hi) ∧ f x.w x.c x.l ≤ f a x.c x.l := by
    rcases (hf.w x.c x.l).hi w1 w2 with h | h
    · exact ⟨_, .inl rfl, h⟩
    · exact ⟨_, .inr rfl, h⟩
  obtain ⟨b, hb, g2⟩ : ∃ b, (b = s.c.lo ∨ b = s.c.hi) ∧ f a x.c x.l ≤ f a b x.l := by
    rcases (hf.c a x.l).hi c1 c2 with h | h
    · exact ⟨_, .inl rfl, h⟩
    · exact ⟨_, .inr rfl, h⟩
  obtain ⟨c, hc, g3⟩ : ∃ c, (c = s.l.lo ∨ c = s.l.hi) ∧ f a b x.l ≤ f a b c := by
    rcases (hf.l a b).hi l1 l2 with h | h
    · exact ⟨_, .inl rfl, h⟩
    · exact ⟨_, .inr rfl, h⟩
  obtain ⟨k, hk, e1, e2, e3⟩ := corner_at s ha hb hc
  have := mxF_le (fun k => f (s.cw k) (s.cc k) (s.cl k)) 8 k hk
  rw [e1, e2, e3] at this
  unfold fHi
  omega
/-- One sack, so much of it: within what it adds at least and at most. -/
theorem one_lo {f : Int → Int → Int → Int} (hf : Tri f) {s : Sk} {x : Cn} (h : inSk s x) {lo hi m : Int} (h0 : 0 ≤ lo) (h1 : lo ≤ m) (h2 : m ≤ hi) : cLo f s lo hi ≤ m * f x.w x.c x.l := by
  have g1 := Int.mul_le_mul_of_nonneg_left (tri_lo hf h) (show 0 ≤ m by omega)
  obtain ⟨k, hk, ek⟩ := mnF_at (fun k => f (s.cw k) (s.cc k) (s.cl k)) 8 (by omega)
  have g2 := (Aff.id_.mulr (fLo f s)).lo h1 h2
  have g3 := mnF_le (fun k => min (lo * f (s.cw k) (s.cc k) (s.cl k)) (hi * f (s.cw k) (s.cc k) (s.cl k))) 8 k hk
  have ek' : fLo f s = f (s.cw k) (s.cc k) (s.cl k) := ek
  rw [← ek'] at g3
  unfold cLo
  omega
theorem one_hi {f : Int → Int → Int → Int} (hf : Tri f) {s : Sk} {x : Cn} (h : inSk s x) {lo hi m : Int} (h0 : 0 ≤ lo) (h1 : lo ≤ m) (h2 : m ≤ hi) : m * f x.w x.c x.l ≤ cHi f s lo hi := by
  have g1 := Int.mul_le_mul_of_nonneg_left (tri_hi hf h) (show 0 ≤ m by omega)
  obtain ⟨k, hk, ek⟩ := mxF_at (fun k => f (s.cw k) (s.cc k) (s.cl k)) 8 (by omega)
  have g2 := (Aff.id_.mulr (fHi f s)).hi h1 h2
  have g3 := mxF_le (fun k => max (lo * f (s.cw k) (s.cc k) (s.cl k)) (hi * f (s.cw k) (s.cc k) (s.cl k))) 8 k hk
  have ek' : fHi f s = f (s.cw k) (s.cc k) (s.cl k) := ek
  rw [← ek'] at g3
  unfold cHi
  omega

/-! ### A truth -/
def zeroCn : Cn := ⟨0, 0, 0⟩
def zeroTk : Tk := ⟨0, ⟨0, 0⟩⟩
def bAt (b : List Tk) (t : Nat) : Tk := b[t]?.getD zeroTk
def xAt (xs : List Cn) (k : Nat) : Cn := xs[k]?.getD zeroCn
def mAt (ms : List Int) (t : Nat) : Int := ms[t]?.getD 0
structure Truth (l : List Sk) (b : List Tk) (xs : List Cn) (ms : List Int) : Prop where
  lx : xs.length = l.length
  lm : ms.length = b.length
  inx : ∀ k, k < l.length → inSk (l[k]?.getD zeroSk) (xAt xs k)
  inm : ∀ t, t < b.length → (bAt b t).m.lo ≤ mAt ms t ∧ mAt ms t ≤ (bAt b t).m.hi
def allS (f : Int → Int → Int → Int) (b : List Tk) (xs : List Cn) (ms : List Int) (n : Nat) : Int :=
  isum (fun t => mAt ms t * f (xAt xs (bAt b t).s.toNat).w (xAt xs (bAt b t).s.toNat).c (xAt xs (bAt b t).s.toNat).l) n
def wM (b : List Tk) (ms : List Int) (k n : Nat) : Int := isum (fun t => if (bAt b t).s = (k : Int) then mAt ms t else 0) n
theorem bAt_get {b : List Tk} {t : Nat} (h : t < b.length) : bAt b t = b[t] := by unfold bAt; rw [List.getElem?_eq_getElem h, Option.getD_some]
theorem group {l : List Sk} {b : List Tk} {ms : List Int} (ht : okT l.length b) (g : Nat → Int) : ∀ n, n ≤ b.length → isum (fun t => mAt ms t * g (bAt b t).s.toNat) n = isum (fun k => wM b ms k n * g k) l.length
  | 0, _ => by
    rw [isum_zero (f := fun k => wM b ms k 0 * g k)]
    · rfl
    · intro j _; simp [wM, isum]
  | n + 1, hn => by
    have ih := group (ms := ms) ht g n (by omega)
    have h2 := ht b[n] (List.getElem_mem _)
    have eb := bAt_get (b := b) (t := n) (by omega)
    have h3 : (bAt b n).s.toNat < l.length := by rw [eb]; omega
    simp only [isum]
    rw [ih, isum_turn (f := fun k => wM b ms k n * g k) (g := fun k => wM b ms k (n + 1) * g k) l.length h3 (fun j hj hne => by
      have : ¬ (bAt b n).s = (j : Int) := by rw [eb] at hne ⊢; omega
      simp only [wM, isum, if_neg this, Int.add_zero])]
    have e0 : (bAt b n).s = (((bAt b n).s.toNat : Nat) : Int) := by rw [eb]; omega
    have e1 : wM b ms (bAt b n).s.toNat (n + 1) = wM b ms (bAt b n).s.toNat n + mAt ms n := by
      simp only [wM, isum]
      rw [if_pos e0]
    rw [e1, Int.add_mul]
    omega
theorem wM_B {l : List Sk} {b : List Tk} {xs : List Cn} {ms : List Int} (hb : okB b) (T : Truth l b xs ms) (k : Nat) : wLo b k ≤ wM b ms k b.length ∧ wM b ms k b.length ≤ wHi b k := by
  have gen : ∀ n, n ≤ b.length → psum (loK (k : Int)) b n ≤ wM b ms k n ∧ wM b ms k n ≤ psum (hiK (k : Int)) b n := by
    intro n
    induction n with
    | zero => intro _; simp [psum_zero, wM, isum]
    | succ n ih =>
      intro hn
      have h1 := ih (by omega)
      have h2 := T.inm n (by omega)
      rw [bAt_get (by omega)] at h2
      rw [psum_succ _ b n hn, psum_succ _ b n hn]
      simp only [wM, isum, loK, hiK, bAt_get (show n < b.length by omega)]
      simp only [wM] at h1
      split <;> omega
  exact gen b.length (Nat.le_refl _)
theorem all_lo {l : List Sk} {b : List Tk} {xs : List Cn} {ms : List Int} (hb : okB b) (ht : okT l.length b) (T : Truth l b xs ms) {f : Int → Int → Int → Int} (hf : Tri f) : sLo f l b ≤ allS f b xs ms b.length := by
  unfold allS
  rw [group (l := l) ht (fun k => f (xAt xs k).w (xAt xs k).c (xAt xs k).l) b.length (Nat.le_refl _)]
  refine isum_mono _ fun k hk => ?_
  have h := wM_B hb T k
  exact one_lo hf (T.inx k hk) (wB hb k).1.1 h.1 h.2
theorem all_hi {l : List Sk} {b : List Tk} {xs : List Cn} {ms : List Int} (hb : okB b) (ht : okT l.length b) (T : Truth l b xs ms) {f : Int → Int → Int → Int} (hf : Tri f) : allS f b xs ms b.length ≤ sHi f l b := by
  unfold allS
  rw [group (l := l) ht (fun k => f (xAt xs k).w (xAt xs k).c (xAt xs k).l) b.length (Nat.le_refl _)]
  refine isum_mono _ fun k hk => ?_
  have h := wM_B hb T k
  exact one_hi hf (T.inx k hk) (wB hb k).1.1 h.1 h.2
theorem isum_add (f g : Nat → Int) : ∀ n, isum (fun j => f j + g j) n = isum f n + isum g n
  | 0 => rfl
  | n + 1 => by simp only [isum]; rw [isum_add f g n]; omega
theorem isum_mul (c : Int) (f : Nat → Int) : ∀ n, isum (fun j => c * f j) n = c * isum f n
  | 0 => by simp [isum]
  | n + 1 => by simp only [isum]; rw [isum_mul c f n, Int.mul_add]
theorem allS_lin {b : List Tk} {xs : List Cn} {ms : List Int} {f g h : Int → Int → Int → Int} (p q : Int) (e : ∀ w c l, h w c l = p * f w c l + q * g w c l) (n : Nat) : allS h b xs ms n = p * allS f b xs ms n + q * allS g b xs ms n := by
  unfold allS
  rw [← isum_mul, ← isum_mul, ← isum_add]
  refine isum_congr n fun j _ => ?_
  rw [e, Int.mul_add]
  rw [← Int.mul_assoc, ← Int.mul_assoc, ← Int.mul_assoc, ← Int.mul_assoc, Int.mul_comm _ p, Int.mul_comm _ q]
def sumM (ms : List Int) (n : Nat) : Int := isum (mAt ms) n
theorem allS_const {b : List Tk} {xs : List Cn} {ms : List Int} (c : Int) (n : Nat) : allS (fun _ _ _ => c) b xs ms n = c * sumM ms n := by
  unfold allS sumM
  rw [← isum_mul]
  exact isum_congr n fun j _ => Int.mul_comm _ _
theorem four_sum (w c l : Int) : dropsF w c l + coalF w c l + smokeF w c l + bakedF w c l = 1000000000 := by
  have e1 : bakedF w c l = (1000 - w) * (1000 - c) * 1000 - (1000 - w) * (1000 - c) * l := by unfold bakedF; rw [Int.mul_sub]
  have e2 : (1000 - w) * (1000 - c) = (1000 - w) * 1000 - (1000 - w) * c := by rw [Int.mul_sub]
  unfold dropsF coalF smokeF
  rw [e1]
  rw [e2]
  generalize ((1000 - w) * 1000 - (1000 - w) * c) * l = z
  generalize (1000 - w) * c = y
  omega
theorem lead_pos {w c l : Int} (hw : 0 ≤ w ∧ w ≤ 900) (hc : 0 ≤ c ∧ c ≤ 1000) (hl : 0 ≤ l ∧ l ≤ 900) : 10000000 ≤ leadF w c l := by
  have e : leadF w c l = (1000 - w) * (c * 1000 + (1000 - c) * (1000 - l)) := by
    unfold leadF coalF bakedF
    rw [Int.mul_add, Int.mul_assoc, Int.mul_assoc]
  have h1 : (1000 - c) * 100 ≤ (1000 - c) * (1000 - l) := Int.mul_le_mul_of_nonneg_left (by omega) (by omega)
  have h2 : 100 * (c * 1000 + (1000 - c) * (1000 - l)) ≤ (1000 - w) * (c * 1000 + (1000 - c) * (1000 - l)) := Int.mul_le_mul_of_nonneg_right (by omega) (by omega)
  rw [e]
  omega

/-! ### The truth that remainders make -/
def tp (lo hi y : Int) : Int := lo + y.tmod (hi - lo + 1)
theorem tp_in {lo hi y : Int} (h : lo ≤ hi) (hy : 0 ≤ y) : lo ≤ tp lo hi y ∧ tp lo hi y ≤ hi := by
  have h1 := Int.tmod_lt_of_pos y (show 0 < hi - lo + 1 by omega)
  have h2 := Int.tmod_nonneg (hi - lo + 1) hy
  unfold tp; omega
def yAt (ys : List Int) (n : Nat) : Int := ys[n % ys.length]?.getD 0
def okY (ys : List Int) : Prop := 0 < ys.length ∧ ∀ y ∈ ys, 0 ≤ y ∧ y ≤ 4294967295
theorem yAt_get {ys : List Int} (h : okY ys) (n : Nat) (hn : n % ys.length < ys.length) : yAt ys n = ys[n % ys.length] := by
  unfold yAt
  rw [List.getElem?_eq_getElem hn, Option.getD_some]
theorem yAt_B {ys : List Int} (h : okY ys) (n : Nat) : 0 ≤ yAt ys n ∧ yAt ys n ≤ 4294967295 := by
  have hn := Nat.mod_lt n h.1
  rw [yAt_get h n hn]
  exact h.2 _ (List.getElem_mem _)
def tCn (l : List Sk) (ys : List Int) (i : Nat) : Cn :=
  ⟨tp (l[i]?.getD zeroSk).w.lo (l[i]?.getD zeroSk).w.hi (yAt ys (3 * i)), tp (l[i]?.getD zeroSk).c.lo (l[i]?.getD zeroSk).c.hi (yAt ys (3 * i + 1)), tp (l[i]?.getD zeroSk).l.lo (l[i]?.getD zeroSk).l.hi (yAt ys (3 * i + 2))⟩
def trueL (l : List Sk) (ys : List Int) (n : Nat) : List Cn := (List.range n).map (tCn l ys)
def tMn (b : List Tk) (ys : List Int) (i : Nat) : Int := tp (bAt b i).m.lo (bAt b i).m.hi (yAt ys (5 * i + 2))
def trueM (b : List Tk) (ys : List Int) (n : Nat) : List Int := (List.range n).map (tMn b ys)
theorem trueL_succ (l : List Sk) (ys : List Int) (n : Nat) : trueL l ys (n + 1) = trueL l ys n ++ [tCn l ys n] := by simp [trueL, List.range_succ]
theorem trueM_succ (b : List Tk) (ys : List Int) (n : Nat) : trueM b ys (n + 1) = trueM b ys n ++ [tMn b ys n] := by simp [trueM, List.range_succ]
theorem trueL_length (l : List Sk) (ys : List Int) (n : Nat) : (trueL l ys n).length = n := by simp [trueL]
theorem trueM_length (b : List Tk) (ys : List Int) (n : Nat) : (trueM b ys n).length = n := by simp [trueM]
def m1 (m : Int) : List PV := [.int .i64 m]
def y1 (m : Int) : List PV := [.int .u32 m]
theorem truth_is {l : List Sk} {b : List Tk} {ys : List Int} (hl : okL l) (hb : okB b) (hy : okY ys) : Truth l b (trueL l ys l.length) (trueM b ys b.length) := by
  refine ⟨trueL_length _ _ _, trueM_length _ _ _, fun k hk => ?_, fun t ht => ?_⟩
  · have hs := hl.get hk
    have e : xAt (trueL l ys l.length) k = tCn l ys k := by simp [xAt, trueL, hk]
    rw [e]
    unfold okSk at hs
    exact ⟨tp_in (by omega) (yAt_B hy _).1, tp_in (by omega) (yAt_B hy _).1, tp_in (by omega) (yAt_B hy _).1⟩
  · have e : mAt (trueM b ys b.length) t = tMn b ys t := by simp [mAt, trueM, ht]
    rw [e]
    have h := hb.2 b[t] (List.getElem_mem _)
    have eb := bAt_get ht
    unfold tMn
    exact tp_in (by rw [eb]; omega) (yAt_B hy _).1
theorem Truth.ok {l : List Sk} {b : List Tk} {xs : List Cn} {ms : List Int} (T : Truth l b xs ms) (hl : okL l) {k : Nat} (hk : k < l.length) : (0 ≤ (xAt xs k).w ∧ (xAt xs k).w ≤ 900) ∧ (0 ≤ (xAt xs k).c ∧ (xAt xs k).c ≤ 1000) ∧ (0 ≤ (xAt xs k).l ∧ (xAt xs k).l ≤ 900) := by
  have h1 := T.inx k hk
  have h2 := hl.get hk
  unfold inSk at h1
  unfold okSk at h2
  omega
theorem Truth.okSt {l : List Sk} {b : List Tk} {xs : List Cn} {ms : List Int} (T : Truth l b xs ms) (hl : okL l) {k : Nat} (hk : k < l.length) : okSt (xAt xs k).w (xAt xs k).c (xAt xs k).l := by
  have := T.ok hl hk
  unfold Proofs.Ytmcejcidbekpkaa.okSt
  omega
theorem Truth.m_B {l : List Sk} {b : List Tk} {xs : List Cn} {ms : List Int} (T : Truth l b xs ms) (hb : okB b) {t : Nat} (ht : t < b.length) : 0 ≤ mAt ms t ∧ mAt ms t ≤ 100000 := by
  have h1 := T.inm t ht
  have h2 := hb.2 b[t] (List.getElem_mem _)
  rw [bAt_get ht] at h1
  omega
section
variable {l : List Sk} {b : List Tk} {xs : List Cn} {ms : List Int} (hl : okL l) (hb : okB b) (ht : okT l.length b) (T : Truth l b xs ms)
include hl hb ht T
theorem term_B (k : Int) {t : Nat} (h : t < b.length) : 0 ≤ mAt ms t * ofF k (xAt xs (bAt b t).s.toNat).w (xAt xs (bAt b t).s.toNat).c (xAt xs (bAt b t).s.toNat).l ∧ mAt ms t * ofF k (xAt xs (bAt b t).s.toNat).w (xAt xs (bAt b t).s.toNat).c (xAt xs (bAt b t).s.toNat).l ≤ 200000000000000 := by
  have h2 := ht b[t] (List.getElem_mem _)
  have eb := bAt_get h
  exact mulB (A := 100000) (B := 2000000000) (T.m_B hb h) (ofB (T.okSt hl (by rw [eb]; omega)))
theorem allS_B (k : Int) (n : Nat) (hn : n ≤ b.length) : 0 ≤ allS (ofF k) b xs ms n ∧ allS (ofF k) b xs ms n ≤ 1600000000000000 := by
  have h := isum_B (f := fun t => mAt ms t * ofF k (xAt xs (bAt b t).s.toNat).w (xAt xs (bAt b t).s.toNat).c (xAt xs (bAt b t).s.toNat).l) (A := 0) (B := 200000000000000) n (fun j hj => term_B hl hb ht T k (by omega))
  have := hb.1
  unfold allS
  omega
omit hl ht in
theorem sumM_B (n : Nat) (hn : n ≤ b.length) : 0 ≤ sumM ms n ∧ sumM ms n ≤ 800000 := by
  have h := isum_B (f := mAt ms) (A := 0) (B := 100000) n (fun j hj => T.m_B hb (by omega))
  have := hb.1
  unfold sumM
  omega
omit hl hb ht T in
theorem F1 : allS (ofF 0) b xs ms b.length + allS (ofF 1) b xs ms b.length + allS (ofF 2) b xs ms b.length + allS (ofF 3) b xs ms b.length = sumM ms b.length * 1000000000 := by
  have h1 := allS_lin (b := b) (xs := xs) (ms := ms) (f := ofF 0) (g := ofF 1) (h := fun w c l => dropsF w c l + coalF w c l) 1 1 (fun w c l => by simp [ofF]) b.length
  have h2 := allS_lin (b := b) (xs := xs) (ms := ms) (f := fun w c l => dropsF w c l + coalF w c l) (g := ofF 2) (h := fun w c l => dropsF w c l + coalF w c l + smokeF w c l) 1 1 (fun w c l => by simp [ofF]) b.length
  have h3 := allS_lin (b := b) (xs := xs) (ms := ms) (f := fun w c l => dropsF w c l + coalF w c l + smokeF w c l) (g := ofF 3) (h := fun _ _ _ => 1000000000) 1 1 (fun w c l => by have := four_sum w c l; simp [ofF]; omega) b.length
  rw [allS_const] at h3
  omega
omit hl hb ht T in
theorem F2 : allS (ofF 4) b xs ms b.length = allS (ofF 1) b xs ms b.length + allS (ofF 3) b xs ms b.length := by
  have h1 := allS_lin (b := b) (xs := xs) (ms := ms) (f := ofF 1) (g := ofF 3) (h := ofF 4) 1 1 (fun w c l => by simp [ofF, leadF]) b.length
  omega
theorem F3 (hne : 0 < b.length) (h1 : ∀ t, t < b.length → 1 ≤ (bAt b t).m.lo) : 0 < allS (ofF 4) b xs ms b.length := by
  have h : isum (fun _ => 10000000) b.length ≤ allS (ofF 4) b xs ms b.length := isum_mono _ fun t h => by
    have h2 := ht b[t] (List.getElem_mem _)
    have eb := bAt_get h
    have h3 := T.ok hl (k := (bAt b t).s.toNat) (by rw [eb]; omega)
    have h4 := lead_pos h3.1 h3.2.1 h3.2.2
    have h5 := T.inm t h
    have h6 := h1 t h
    have h7 : 1 * leadF (xAt xs (bAt b t).s.toNat).w (xAt xs (bAt b t).s.toNat).c (xAt xs (bAt b t).s.toNat).l ≤ mAt ms t * leadF (xAt xs (bAt b t).s.toNat).w (xAt xs (bAt b t).s.toNat).c (xAt xs (bAt b t).s.toNat).l := Int.mul_le_mul_of_nonneg_right (by omega) (by omega)
    have e : ofF 4 (xAt xs (bAt b t).s.toNat).w (xAt xs (bAt b t).s.toNat).c (xAt xs (bAt b t).s.toNat).l = leadF (xAt xs (bAt b t).s.toNat).w (xAt xs (bAt b t).s.toNat).c (xAt xs (bAt b t).s.toNat).l := by simp [ofF]
    rw [e]
    omega
  have e : ∀ n : Nat, isum (fun _ => 10000000) n = 10000000 * (n : Int) := by
    intro n
    induction n with
    | zero => rfl
    | succ n ih => simp only [isum]; rw [ih]; omega
  rw [e] at h
  omega
theorem F4 (hv : validB l b = true) (k : Int) : wL l b k * 1000000000 ≤ allS (ofF k) b xs ms b.length ∧ allS (ofF k) b xs ms b.length ≤ wH l b k * 1000000000 := by
  have h1 := all_lo hb ht T (Tri.of k)
  have h2 := all_hi hb ht T (Tri.of k)
  rw [sLo_part hl hb] at h1
  rw [sHi_part hl hb] at h2
  unfold wL wH
  rw [if_pos hv, if_pos hv]
  omega
theorem F5 (hv : validB l b = true) : shL l b * allS (ofF 4) b xs ms b.length ≤ 1000 * allS (ofF 1) b xs ms b.length ∧ 1000 * allS (ofF 1) b xs ms b.length ≤ shH l b * allS (ofF 4) b xs ms b.length := by
  have hsc := sc_B hl hb
  have g1 := (scLo_ge hl hb hsc.1).1 (Int.le_refl _)
  have g2 := (scHi_le hl hb hsc.2).1 (Int.le_refl _)
  have lin : ∀ n : Int, allS (overF n) b xs ms b.length = 1000 * allS (ofF 1) b xs ms b.length + (-n) * allS (ofF 4) b xs ms b.length := fun n =>
    allS_lin (f := ofF 1) (g := ofF 4) (h := overF n) 1000 (-n) (fun w c l => by simp [ofF, overF, Int.neg_mul]; omega) b.length
  have h1 := all_lo hb ht T (Tri.over (scLo l b 1001))
  have h2 := all_hi hb ht T (Tri.over (scHi l b 1001))
  rw [lin, Int.neg_mul] at h1 h2
  have e1 : sLo (overF (scLo l b 1001)) l b = bLo l b (scLo l b 1001) := rfl
  have e2 : sHi (overF (scHi l b 1001)) l b = bHi l b (scHi l b 1001) := rfl
  unfold shL shH
  rw [if_pos hv, if_pos hv]
  omega
omit hl hb ht T in
theorem drops_sum : allS (ofF 0) b xs ms b.length = 1000000 * allS (fun w _ _ => w) b xs ms b.length := by
  have := allS_lin (b := b) (xs := xs) (ms := ms) (f := fun w _ _ => w) (g := fun w _ _ => w) (h := ofF 0) 1000000 0 (fun w c l => by simp [ofF, dropsF]; omega) b.length
  omega
/-- Water: with more of it, from the least to the most that is told. -/
theorem F6 {w : Sp} (hE : waE l b w = 0) {more : Int} (hm : waL l b w ≤ more ∧ more ≤ waH l b w) : w.lo * (sumM ms b.length + more) ≤ allS (fun w _ _ => w) b xs ms b.length + 1000 * more ∧ allS (fun w _ _ => w) b xs ms b.length + 1000 * more ≤ w.hi * (sumM ms b.length + more) := by
  have hv : w.ok 0 999 = true ∧ ¬ waterHi l b w < waterLo l b w := by
    unfold waE at hE
    split at hE
    · split at hE
      · rename_i h
        split at hE
        · omega
        · exact ⟨h, by assumption⟩
      · omega
    · omega
  have hw : 0 ≤ w.lo ∧ w.lo ≤ w.hi ∧ w.hi ≤ 999 := by have := hv.1; simp [Sp.ok] at this; omega
  have lin : ∀ n : Int, allS (fun w _ _ => n - w) b xs ms b.length = n * sumM ms b.length - allS (fun w _ _ => w) b xs ms b.length := fun n => by
    have := allS_lin (b := b) (xs := xs) (ms := ms) (f := fun _ _ _ => n) (g := fun w _ _ => w) (h := fun w _ _ => n - w) 1 (-1) (fun w c l => by omega) b.length
    rw [allS_const] at this
    omega
  have h1 := all_hi hb ht T (Tri.lack w.lo)
  have h2 := all_lo hb ht T (Tri.lack w.hi)
  rw [lin, sHi_lack hl hb] at h1
  rw [lin, sLo_lack hl hb] at h2
  unfold waL waH at hm
  rw [if_pos hE, if_pos hE] at hm
  unfold waterLo waterHi kLo kHi at hm
  generalize isum (lackHi l b w.lo) l.length = K at h1 hm
  generalize isum (lackLo l b w.hi) l.length = L at h2 hm
  generalize allS (fun w _ _ => w) b xs ms b.length = W at h1 h2 ⊢
  generalize sumM ms b.length = S at h1 h2 ⊢
  have d1 : K ≤ more * (1000 - w.lo) := by
    have a1 : -((0 - K) / (1000 - w.lo)) ≤ more := by omega
    have a2 := Int.mul_ediv_add_emod (0 - K) (1000 - w.lo)
    have a3 := Int.emod_nonneg (0 - K) (show 1000 - w.lo ≠ 0 by omega)
    have a4 := Int.mul_le_mul_of_nonneg_left a1 (show 0 ≤ 1000 - w.lo by omega)
    rw [Int.mul_neg] at a4
    rw [Int.mul_comm more]
    omega
  have d2 : more * (1000 - w.hi) ≤ L := by
    have a1 : more ≤ L / (1000 - w.hi) := by omega
    have a2 := Int.mul_ediv_add_emod L (1000 - w.hi)
    have a3 := Int.emod_nonneg L (show 1000 - w.hi ≠ 0 by omega)
    have a4 := Int.mul_le_mul_of_nonneg_left a1 (show 0 ≤ 1000 - w.hi by omega)
    rw [Int.mul_comm more]
    omega
  rw [Int.mul_sub, Int.mul_comm more w.lo] at d1
  rw [Int.mul_sub, Int.mul_comm more w.hi] at d2
  rw [Int.mul_add, Int.mul_add]
  omega
end
theorem tmodN (a b : Nat) : (a : Int).tmod (b : Int) = ((a % b : Nat) : Int) := rfl
end Go.Proofs.Ytmcejcidbekpkaa
