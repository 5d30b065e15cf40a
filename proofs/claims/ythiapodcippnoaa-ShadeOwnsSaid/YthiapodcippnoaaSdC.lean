/-
  Plain data of chapter 2: the best cuts, by what can be sold from a cut on; what is kept in a table. No program in sight.
-/
import Derived.Test.YthiapodcippnoaaSdR
set_option linter.unusedVariables false
set_option linter.unusedSimpArgs false
namespace Go.Proofs.Ythiapodcippnoaa
open Go.AF
def soldX (gap fr to : Int) (x : Bch) : Int := if x.lo < fr ∨ to < x.hi + gap then 0 else x.l.many
def soldF (b : List Bch) (gap fr to : Int) : Int := (b.map (soldX gap fr to)).sum
structure BOk (b : List Bch) : Prop where
  n : b.length ≤ 10
  x : ∀ x ∈ b, (0 ≤ x.lo ∧ x.lo ≤ x.hi ∧ x.hi ≤ 200) ∧ 0 ≤ x.l.many ∧ x.l.many ≤ 1048576
theorem sold_take {b : List Bch} {gap fr to : Int} {k : Nat} (h : k < b.length) : soldF (b.take (k + 1)) gap fr to = soldF (b.take k) gap fr to + soldX gap fr to (bc b k) := by
  unfold soldF
  rw [List.take_succ_eq_append_getElem h, List.map_append, List.sum_append, bc_get h]
  simp
theorem sold_B {b : List Bch} (hb : ∀ x ∈ b, 0 ≤ x.l.many ∧ x.l.many ≤ 1048576) (gap fr to : Int) : 0 ≤ soldF b gap fr to ∧ soldF b gap fr to ≤ 1048576 * b.length := by
  induction b with
  | nil => simp [soldF]
  | cons x b ih =>
    have h1 := ih fun y hy => hb y (by simp [hy])
    have h2 := hb x (by simp)
    have e : soldF (x :: b) gap fr to = soldX gap fr to x + soldF b gap fr to := by simp [soldF]
    have h3 : 0 ≤ soldX gap fr to x ∧ soldX gap fr to x ≤ 1048576 := by
      unfold soldX; split <;> omega
    rw [e, List.length_cons]
    push_cast
    omega
theorem sold_B10 {b : List Bch} (hb : BOk b) (gap fr to : Int) : 0 ≤ soldF b gap fr to ∧ soldF b gap fr to ≤ 10485760 := by
  have h := sold_B (fun x hx => (hb.x x hx).2) gap fr to
  have := hb.n
  omega
theorem sold_takeB {b : List Bch} (hb : BOk b) (gap fr to : Int) (k : Nat) : 0 ≤ soldF (b.take k) gap fr to ∧ soldF (b.take k) gap fr to ≤ 10485760 :=
  sold_B10 ⟨by have := hb.n; rw [List.length_take]; omega, fun x hx => hb.x x (List.mem_of_mem_take hx)⟩ gap fr to
theorem bc_mem {l : List Bch} {i : Nat} (h : i < l.length) : bc l i ∈ l := by rw [← bc_get h]; exact List.getElem_mem _
/-- The greatest of so many, the first one of those that are the same; -1 counts as none. -/
def bstF (f : Int → Int) (a : Int) : Nat → Int × Int × Bool
  | 0 => (0, 0, false)
  | n + 1 => if f (a + n) ≠ -1 ∧ ((bstF f a n).2.2 = false ∨ (bstF f a n).1 < f (a + n)) then (f (a + n), a + n, true) else bstF f a n
theorem bst_spec {f : Int → Int} {a : Int} (hf : ∀ x, -1 ≤ f x) : ∀ m : Nat, ((bstF f a m).2.2 = false ∧ ∀ i : Nat, i < m → f (a + i) = -1) ∨
    ∃ i : Nat, i < m ∧ bstF f a m = (f (a + i), a + i, true) ∧ f (a + i) ≠ -1 ∧ (∀ k : Nat, k < m → f (a + k) ≤ f (a + i)) ∧ ∀ k : Nat, k < i → f (a + k) < f (a + i)
  | 0 => .inl ⟨rfl, fun i h => absurd h (by omega)⟩
  | m + 1 => by
    have hm := hf (a + m)
    rcases bst_spec (a := a) hf m with ⟨h1, h2⟩ | ⟨i, h1, h2, h3, h4, h5⟩
    · by_cases hn : f (a + m) = -1
      · left
        refine ⟨?_, fun i hi => ?_⟩
        · unfold bstF
          rw [if_neg (fun h => h.1 hn)]; exact h1
        · rcases Nat.lt_succ_iff_lt_or_eq.1 hi with h | rfl
          · exact h2 i h
          · exact hn
      · right
        refine ⟨m, by omega, ?_, hn, fun k hk => ?_, fun k hk => ?_⟩
        · conv => lhs; unfold bstF
          rw [if_pos ⟨hn, .inl h1⟩]
        · rcases Nat.lt_succ_iff_lt_or_eq.1 hk with h | rfl
          · rw [h2 k h]; exact hm
          · exact Int.le_refl _
        · rw [h2 k hk]; omega
    · right
      by_cases hn : f (a + i) < f (a + m)
      · refine ⟨m, by omega, ?_, by have := hf (a + i); omega, fun k hk => ?_, fun k hk => ?_⟩
        · conv => lhs; unfold bstF
          rw [if_pos ⟨by have := hf (a + i); omega, .inr (by rw [h2]; exact hn)⟩]
        · rcases Nat.lt_succ_iff_lt_or_eq.1 hk with h | rfl
          · have := h4 k h; omega
          · exact Int.le_refl _
        · have := h4 k hk; omega
      · refine ⟨i, by omega, ?_, h3, fun k hk => ?_, h5⟩
        · conv => lhs; unfold bstF
          rw [if_neg (fun h => by rcases h.2 with h6 | h6; { rw [h2] at h6; cases h6 }; { rw [h2] at h6; exact hn h6 }), h2]
        · rcases Nat.lt_succ_iff_lt_or_eq.1 hk with h | rfl
          · exact h4 k h
          · omega
def stepsN (s : Scl) (fr : Int) : Nat := (min 200 (fr + s.most) + 1 - (fr + s.least)).toNat
/-- What can be sold from a cut on, in so many shades; -1: there are no such cuts. -/
def mostF (b : List Bch) (s : Scl) : Nat → Int → Int
  | 0, _ => 0
  | j + 1, fr =>
    let r := bstF (fun to => if mostF b s j to = -1 then -1 else mostF b s j to + soldF b s.gap fr to) (fr + s.least) (stepsN s fr)
    if r.2.2 then r.1 else -1
def rstF (b : List Bch) (s : Scl) (j : Nat) (fr to : Int) : Int := if mostF b s j to = -1 then -1 else mostF b s j to + soldF b s.gap fr to
def bestR (b : List Bch) (s : Scl) (j : Nat) (fr : Int) : Int × Int × Bool := bstF (rstF b s j fr) (fr + s.least) (stepsN s fr)
theorem mostF_succ (b : List Bch) (s : Scl) (j : Nat) (fr : Int) : mostF b s (j + 1) fr = if (bestR b s j fr).2.2 then (bestR b s j fr).1 else -1 := rfl
theorem mostF_pred (b : List Bch) {s : Scl} {k : Nat} (f : Int) (h : k < s.n.toNat) : mostF b s (s.n.toNat - k) f = if (bestR b s (s.n.toNat - k - 1) f).2.2 then (bestR b s (s.n.toNat - k - 1) f).1 else -1 := by
  have e : s.n.toNat - k = (s.n.toNat - k - 1) + 1 := by omega
  have h2 := mostF_succ b s (s.n.toNat - k - 1) f
  rwa [← e] at h2
theorem rst_of {b : List Bch} {s : Scl} {j : Nat} (hb : BOk b) (h : ∀ fr, -1 ≤ mostF b s j fr ∧ mostF b s j fr ≤ 10485760 * j) (fr to : Int) : -1 ≤ rstF b s j fr to ∧ rstF b s j fr to ≤ 10485760 * (j + 1 : Nat) := by
  have h1 := h to
  have h2 := sold_B10 hb s.gap fr to
  unfold rstF
  push_cast
  split <;> omega
theorem mostF_B {b : List Bch} (hb : BOk b) (s : Scl) : ∀ (j : Nat) (fr : Int), -1 ≤ mostF b s j fr ∧ mostF b s j fr ≤ 10485760 * j
  | 0, fr => by simp [mostF]
  | j + 1, fr => by
    have h := rst_of hb (mostF_B hb s j) fr
    rw [mostF_succ]
    rcases bst_spec (f := rstF b s j fr) (a := fr + s.least) (fun x => (h x).1) (stepsN s fr) with ⟨h1, h2⟩ | ⟨i, h1, h2, h3, h4, h5⟩
    · unfold bestR
      rw [if_neg (by rw [h1]; decide)]
      exact ⟨Int.le_refl _, by omega⟩
    · unfold bestR
      rw [h2]
      exact h _
theorem rstF_B {b : List Bch} (hb : BOk b) (s : Scl) (j : Nat) (fr to : Int) : -1 ≤ rstF b s j fr to ∧ rstF b s j fr to ≤ 10485760 * (j + 1 : Nat) := rst_of hb (mostF_B hb s j) fr to
/-- What the best next cut is. -/
theorem best_at {b : List Bch} (hb : BOk b) {s : Scl} {j : Nat} {fr : Int} (h : mostF b s (j + 1) fr ≠ -1) : (bestR b s j fr).2.2 = true ∧
    (fr + s.least ≤ (bestR b s j fr).2.1 ∧ (bestR b s j fr).2.1 ≤ min 200 (fr + s.most)) ∧ mostF b s j (bestR b s j fr).2.1 ≠ -1 ∧ mostF b s (j + 1) fr = mostF b s j (bestR b s j fr).2.1 + soldF b s.gap fr (bestR b s j fr).2.1 := by
  rw [mostF_succ] at h ⊢
  rcases bst_spec (f := rstF b s j fr) (a := fr + s.least) (fun x => (rstF_B hb s j fr x).1) (stepsN s fr) with ⟨h1, h2⟩ | ⟨i, h1, h2, h3, h4, h5⟩
  · exact absurd (if_neg (by unfold bestR; rw [h1]; decide)) h
  · have e : bestR b s j fr = (rstF b s j fr (fr + s.least + i), fr + s.least + i, true) := h2
    rw [e]
    have hn : mostF b s j (fr + s.least + i) ≠ -1 := fun h6 => h3 (by unfold rstF; rw [if_pos h6])
    refine ⟨rfl, ⟨by dsimp only; omega, ?_⟩, hn, ?_⟩
    · dsimp only
      unfold stepsN at h1
      omega
    · show rstF b s j fr (fr + s.least + i) = _
      unfold rstF
      rw [if_neg hn]

/-! ### The table -/
structure Cho where
  many : Int
  next : Int
  known : Bool
def Cho.cells (x : Cho) : List PV := [.int .i64 x.many, .int .i64 x.next, .bool x.known]
def tb0 : List Cho := List.replicate 1809 ⟨0, 0, false⟩
def cho (t : List Cho) (i : Nat) : Cho := t.getD i ⟨0, 0, false⟩
theorem cho_get {t : List Cho} {i : Nat} (h : i < t.length) : t[i] = cho t i := by
  unfold cho
  rw [List.getD_eq_getElem?_getD, List.getElem?_eq_getElem h]; rfl
theorem cho_set {t : List Cho} {i j : Nat} {z : Cho} (h : i < t.length) : cho (t.set i z) j = if i = j then z else cho t j := by
  unfold cho
  rw [List.getD_eq_getElem?_getD, List.getD_eq_getElem?_getD, List.getElem?_set]
  split
  · rename_i e
    subst e
    simp [h]
  · rfl
def ix (k f : Nat) : Nat := k * 201 + f
theorem ix_inj {k f k' f' : Nat} (h : f ≤ 200) (h' : f' ≤ 200) (e : ix k f = ix k' f') : k = k' ∧ f = f' := by
  unfold ix at e
  omega
structure MemoOk (b : List Bch) (s : Scl) (t : List Cho) : Prop where
  len : t.length = 1809
  val : ∀ k f : Nat, k < s.n.toNat → f ≤ 200 → (cho t (ix k f)).known = true → (cho t (ix k f)).many = mostF b s (s.n.toNat - k) f ∧ (cho t (ix k f)).next = (bestR b s (s.n.toNat - k - 1) f).2.1
  nxt : ∀ k f : Nat, k + 1 < s.n.toNat → f ≤ 200 → (cho t (ix k f)).known = true → ∀ g : Nat, (f : Int) + s.least ≤ g → (g : Int) ≤ min 200 (f + s.most) → (cho t (ix (k + 1) g)).known = true
def LeT (t t' : List Cho) : Prop := ∀ i, (cho t i).known = true → (cho t' i).known = true
theorem LeT.refl (t : List Cho) : LeT t t := fun _ h => h
theorem LeT.trans {t t' t'' : List Cho} (h : LeT t t') (k : LeT t' t'') : LeT t t'' := fun i hi => k i (h i hi)
theorem memo0 (b : List Bch) (s : Scl) : MemoOk b s tb0 := by
  have h : ∀ i, (cho tb0 i).known = false := fun i => by
    unfold cho tb0
    rw [List.getD_eq_getElem?_getD, List.getElem?_replicate]
    split <;> rfl
  exact ⟨List.length_replicate, fun k f _ _ h2 => (by rw [h] at h2; cases h2), fun k f _ _ h2 => (by rw [h] at h2; cases h2)⟩
theorem memo_set {b : List Bch} {s : Scl} {t : List Cho} (h : MemoOk b s t) (hs : OkZ s) {k f : Nat} (hk : k < s.n.toNat) (hf : f ≤ 200)
    (hn : k + 1 < s.n.toNat → ∀ g : Nat, (f : Int) + s.least ≤ g → (g : Int) ≤ min 200 (f + s.most) → (cho t (ix (k + 1) g)).known = true) :
    MemoOk b s (t.set (ix k f) ⟨mostF b s (s.n.toNat - k) f, (bestR b s (s.n.toNat - k - 1) f).2.1, true⟩) ∧ LeT t (t.set (ix k f) ⟨mostF b s (s.n.toNat - k) f, (bestR b s (s.n.toNat - k - 1) f).2.1, true⟩) ∧
    (cho (t.set (ix k f) ⟨mostF b s (s.n.toNat - k) f, (bestR b s (s.n.toNat - k - 1) f).2.1, true⟩) (ix k f)).known = true := by
  have hl : ix k f < t.length := by
    rw [h.len]
    unfold ix
    have := hs.n
    omega
  have hle : LeT t (t.set (ix k f) ⟨mostF b s (s.n.toNat - k) f, (bestR b s (s.n.toNat - k - 1) f).2.1, true⟩) := fun i hi => by
    rw [cho_set hl]
    split
    · rfl
    · exact hi
  refine ⟨⟨by rw [List.length_set]; exact h.len, fun k' f' h1 h2 h3 => ?_, fun k' f' h1 h2 h3 g h4 h5 => ?_⟩, hle, by rw [cho_set hl, if_pos rfl]⟩
  · rw [cho_set hl] at h3 ⊢
    split
    · rename_i e
      obtain ⟨rfl, rfl⟩ := ix_inj hf h2 e
      exact ⟨rfl, rfl⟩
    · rename_i e
      rw [if_neg e] at h3
      exact h.val k' f' h1 h2 h3
  · rw [cho_set hl] at h3
    split at h3
    · rename_i e
      obtain ⟨rfl, rfl⟩ := ix_inj hf h2 e
      exact hle _ (hn h1 g h4 h5)
    · exact hle _ (h.nxt k' f' h1 h2 h3 g h4 h5)

/-! ### The cuts -/
def frN (b : List Bch) (s : Scl) (f0 : Int) : Nat → Int
  | 0 => f0
  | k + 1 => (bestR b s (s.n.toNat - k - 1) (frN b s f0 k)).2.1
def cutL (b : List Bch) (s : Scl) (f0 : Int) (n : Nat) : List Int := (List.range (n + 1)).map (frN b s f0)
theorem cutL_succ (b : List Bch) (s : Scl) (f0 : Int) (n : Nat) : cutL b s f0 (n + 1) = cutL b s f0 n ++ [frN b s f0 (n + 1)] := by
  unfold cutL
  rw [List.range_succ, List.map_append]; rfl
theorem cutL_len (b : List Bch) (s : Scl) (f0 : Int) (n : Nat) : (cutL b s f0 n).length = n + 1 := by simp [cutL]
def cutB (b : List Bch) (s : Scl) : Int × Int × Bool := bstF (mostF b s s.n.toNat) 0 201
def cutE (c : List Tnt) (ls : List Lds) (s : Scl) : Int := openE c ls 10 (sclB s)
def cutR (c : List Tnt) (ls : List Lds) (s : Scl) : List Int × Int × Int :=
  if cutE c ls s = 0 then (if (cutB (ls.map (toB c)) s).2.2 = true then (cutL (ls.map (toB c)) s (cutB (ls.map (toB c)) s).2.1 s.n.toNat, (cutB (ls.map (toB c)) s).1, 0) else ([], 0, 4)) else ([], 0, cutE c ls s)
theorem frN_ok {b : List Bch} (hb : BOk b) {s : Scl} (hs : OkZ s) {f0 : Int} (h0 : 0 ≤ f0) (h1 : f0 ≤ 200) (hm : mostF b s s.n.toNat f0 ≠ -1) : ∀ k, k ≤ s.n.toNat →
    (0 ≤ frN b s f0 k ∧ frN b s f0 k ≤ 200) ∧ mostF b s (s.n.toNat - k) (frN b s f0 k) ≠ -1
  | 0, _ => ⟨⟨h0, h1⟩, hm⟩
  | k + 1, hk => by
    obtain ⟨h2, h3⟩ := frN_ok hb hs h0 h1 hm k (by omega)
    have e : s.n.toNat - k = (s.n.toNat - (k + 1)) + 1 := by omega
    rw [e] at h3
    obtain ⟨_, h4, h5, _⟩ := best_at hb h3
    have e2 : frN b s f0 (k + 1) = (bestR b s (s.n.toNat - (k + 1)) (frN b s f0 k)).2.1 := by
      show (bestR b s (s.n.toNat - k - 1) (frN b s f0 k)).2.1 = _
      rw [show s.n.toNat - k - 1 = s.n.toNat - (k + 1) by omega]
    rw [e2]
    have := hs.least
    exact ⟨⟨by omega, by omega⟩, h5⟩
theorem frN_next {b : List Bch} (hb : BOk b) {s : Scl} (hs : OkZ s) {f0 : Int} (h0 : 0 ≤ f0) (h1 : f0 ≤ 200) (hm : mostF b s s.n.toNat f0 ≠ -1) {k : Nat} (hk : k < s.n.toNat) :
    (frN b s f0 k + s.least ≤ frN b s f0 (k + 1) ∧ frN b s f0 (k + 1) ≤ min 200 (frN b s f0 k + s.most)) ∧ mostF b s (s.n.toNat - k) (frN b s f0 k) = mostF b s (s.n.toNat - (k + 1)) (frN b s f0 (k + 1)) + soldF b s.gap (frN b s f0 k) (frN b s f0 (k + 1)) := by
  obtain ⟨h2, h3⟩ := frN_ok hb hs h0 h1 hm k (by omega)
  have e : s.n.toNat - k = (s.n.toNat - (k + 1)) + 1 := by omega
  rw [e] at h3 ⊢
  obtain ⟨_, h4, h5, h6⟩ := best_at hb h3
  have e2 : frN b s f0 (k + 1) = (bestR b s (s.n.toNat - (k + 1)) (frN b s f0 k)).2.1 := by
    show (bestR b s (s.n.toNat - k - 1) (frN b s f0 k)).2.1 = _
    rw [show s.n.toNat - k - 1 = s.n.toNat - (k + 1) by omega]
  rw [e2]
  exact ⟨h4, h6⟩
theorem cut_first {b : List Bch} (hb : BOk b) {s : Scl} (h : (cutB b s).2.2 = true) : (0 ≤ (cutB b s).2.1 ∧ (cutB b s).2.1 ≤ 200) ∧ mostF b s s.n.toNat (cutB b s).2.1 ≠ -1 ∧ (cutB b s).1 = mostF b s s.n.toNat (cutB b s).2.1 ∧
    (∀ k : Nat, k < 201 → mostF b s s.n.toNat k ≤ (cutB b s).1) ∧ ∀ k : Nat, (k : Int) < (cutB b s).2.1 → mostF b s s.n.toNat k < (cutB b s).1 := by
  unfold cutB at h ⊢
  rcases bst_spec (f := mostF b s s.n.toNat) (a := 0) (fun x => (mostF_B hb s _ x).1) 201 with ⟨h1, h2⟩ | ⟨i, h1, h2, h3, h4, h5⟩
  · rw [h1] at h; cases h
  · rw [h2]
    dsimp only
    rw [Int.zero_add] at h3 h4 h5 ⊢
    refine ⟨⟨by omega, by omega⟩, h3, rfl, fun k hk => ?_, fun k hk => ?_⟩
    · have := h4 k hk; rwa [Int.zero_add] at this
    · have := h5 k (by omega); rwa [Int.zero_add] at this
theorem bok_open {c : List Tnt} {ls : List Lds} {valid : Bool} (h : Opn c ls 10 valid) : BOk (ls.map (toB c)) := by
  refine ⟨by rw [List.length_map]; have := h.on; omega, fun x hx => ?_⟩
  obtain ⟨l, hl, rfl⟩ := List.mem_map.1 hx
  have h1 := h.ob l hl
  have h2 := meets_B (srcs c l)
  have h3 := (h.ol l hl).m
  refine ⟨⟨h2.1, h1, h2.2⟩, h3⟩
end Go.Proofs.Ythiapodcippnoaa
