/-
  Plain laws of chapter 2: other cuts let no more be sold, or come later; the leads that fit are in order. No program in sight.
-/
import Derived.Test.YthiapodcippnoaaSdS
set_option linter.unusedVariables false
set_option linter.unusedSimpArgs false
namespace Go.Proofs.Ythiapodcippnoaa
open Go.AF
/-- What fits of a batch, as what, by the first so many pairs of cuts. -/
def fxN (q : Nat → Int) (gap : Int) (x : Bch) : Nat → Int
  | 0 => 0
  | k + 1 => fxN q gap x k + soldX gap (q k) (q (k + 1)) x
def fxO (q : Nat → Int) (gap : Int) (x : Bch) : Nat → Int
  | 0 => -1
  | k + 1 => if q k ≤ x.lo ∧ x.hi + gap ≤ q (k + 1) then (k : Int) else fxO q gap x k
theorem fxN_B {q : Nat → Int} {gap : Int} {x : Bch} (h : 0 ≤ x.l.many ∧ x.l.many ≤ 1048576) : ∀ k : Nat, 0 ≤ fxN q gap x k ∧ fxN q gap x k ≤ 1048576 * k
  | 0 => by simp [fxN]
  | k + 1 => by
    have h1 := fxN_B (q := q) (gap := gap) h k
    have h2 : 0 ≤ soldX gap (q k) (q (k + 1)) x ∧ soldX gap (q k) (q (k + 1)) x ≤ 1048576 := by unfold soldX; split <;> omega
    unfold fxN
    push_cast
    omega
def fitN (q : Nat → Int) (gap : Int) (m : Nat) (b : List Bch) : Int := (b.map fun x => fxN q gap x m).sum
def fitO (q : Nat → Int) (gap : Int) (m : Nat) (b : List Bch) : List Int := b.map fun x => fxO q gap x m
theorem fitN_take {q : Nat → Int} {gap : Int} {m : Nat} {b : List Bch} {k : Nat} (h : k < b.length) : fitN q gap m (b.take (k + 1)) = fitN q gap m (b.take k) + fxN q gap (bc b k) m := by
  unfold fitN
  rw [List.take_succ_eq_append_getElem h, List.map_append, List.sum_append, bc_get h]
  simp
theorem fitO_take {q : Nat → Int} {gap : Int} {m : Nat} {b : List Bch} {k : Nat} (h : k < b.length) : fitO q gap m (b.take (k + 1)) = fitO q gap m (b.take k) ++ [fxO q gap (bc b k) m] := by
  unfold fitO
  rw [List.take_succ_eq_append_getElem h, List.map_append, bc_get h]
  rfl
theorem fitN_B {q : Nat → Int} {gap : Int} {m : Nat} (hm : m ≤ 8) {b : List Bch} (hb : ∀ x ∈ b, 0 ≤ x.l.many ∧ x.l.many ≤ 1048576) : 0 ≤ fitN q gap m b ∧ fitN q gap m b ≤ 8388608 * b.length := by
  unfold fitN
  induction b with
  | nil => simp
  | cons x b ih =>
    have h1 := ih fun y hy => hb y (by simp [hy])
    have h2 := fxN_B (q := q) (gap := gap) (hb x (by simp)) m
    rw [List.map_cons, List.sum_cons, List.length_cons]
    push_cast
    omega
/-- What fits is what is sold between each two cuts. -/
def sumQ (b : List Bch) (gap : Int) (q : Nat → Int) : Nat → Int
  | 0 => 0
  | k + 1 => sumQ b gap q k + soldF b gap (q k) (q (k + 1))
theorem fitN_sum (q : Nat → Int) (gap : Int) (b : List Bch) : ∀ m, fitN q gap m b = sumQ b gap q m
  | 0 => by
    unfold fitN sumQ
    induction b with
    | nil => rfl
    | cons x b ih => rw [List.map_cons, List.sum_cons, ih]; rfl
  | m + 1 => by
    rw [sumQ, ← fitN_sum q gap b m]
    unfold fitN soldF
    induction b with
    | nil => rfl
    | cons x b ih =>
      rw [List.map_cons, List.sum_cons, ih, List.map_cons, List.sum_cons, List.map_cons, List.sum_cons, fxN]
      omega
theorem fxO_some {q : Nat → Int} {gap : Int} {x : Bch} : ∀ {m : Nat}, 0 ≤ fxO q gap x m → ∃ k : Nat, k < m ∧ fxO q gap x m = (k : Int) ∧ q k ≤ x.lo ∧ x.hi + gap ≤ q (k + 1)
  | 0, h => by simp [fxO] at h
  | m + 1, h => by
    unfold fxO at h ⊢
    split at h
    · rename_i hi
      rw [if_pos hi]
      exact ⟨m, by omega, rfl, hi.1, hi.2⟩
    · rename_i hi
      rw [if_neg hi]
      obtain ⟨k, h1, h2⟩ := fxO_some h
      exact ⟨k, by omega, h2⟩
/-- Cuts of a scale. -/
structure Cuts (s : Scl) (q : Nat → Int) : Prop where
  lo : 0 ≤ q 0
  hi : q s.n.toNat ≤ 200
  st : ∀ k, k < s.n.toNat → q k + s.least ≤ q (k + 1) ∧ q (k + 1) ≤ q k + s.most
theorem Cuts.mono {s : Scl} (hs : OkZ s) {q : Nat → Int} (h : Cuts s q) : ∀ {i k : Nat}, i ≤ k → k ≤ s.n.toNat → q i ≤ q k := by
  intro i k hik hk
  induction k with
  | zero => obtain rfl : i = 0 := by omega
            exact Int.le_refl _
  | succ k ih =>
    rcases Nat.lt_or_ge i (k + 1) with h1 | h1
    · have := ih (by omega) (by omega)
      have h2 := h.st k (by omega)
      have h3 := hs.least
      omega
    · obtain rfl : i = k + 1 := by omega
      exact Int.le_refl _
theorem Cuts.in_ {s : Scl} (hs : OkZ s) {q : Nat → Int} (h : Cuts s q) {k : Nat} (hk : k ≤ s.n.toNat) : 0 ≤ q k ∧ q k ≤ 200 := by
  have h1 := h.mono hs (Nat.zero_le k) hk
  have h2 := h.mono hs hk (Nat.le_refl _)
  have h3 := h.lo
  have h4 := h.hi
  omega
/-- What is sold from a cut on is no more than can be. -/
theorem sum_le {b : List Bch} (hb : BOk b) {s : Scl} (hs : OkZ s) {q : Nat → Int} (h : Cuts s q) : ∀ j k : Nat, k + j = s.n.toNat → mostF b s j (q k) ≠ -1 ∧ sumQ b s.gap q s.n.toNat - sumQ b s.gap q k ≤ mostF b s j (q k)
  | 0, k, e => by
    obtain rfl : k = s.n.toNat := by omega
    simp [mostF]
  | j + 1, k, e => by
    obtain ⟨h1, h2⟩ := sum_le hb hs h j (k + 1) (by omega)
    have h3 := h.st k (by omega)
    have h4 := h.in_ hs (k := k + 1) (by omega)
    have h5 := mostF_ge hb (s := s) (j := j) (fr := q k) (to := q (k + 1)) h3.1 (by omega) h1
    have h6 := mostF_B hb s j (q (k + 1))
    have h7 := sold_B10 hb s.gap (q k) (q (k + 1))
    have h8 : sumQ b s.gap q (k + 1) = sumQ b s.gap q k + soldF b s.gap (q k) (q (k + 1)) := rfl
    exact ⟨by omega, by omega⟩
theorem other_le {b : List Bch} (hb : BOk b) {s : Scl} (hs : OkZ s) {q : Nat → Int} (h : Cuts s q) (hc : (cutB b s).2.2 = true) : sumQ b s.gap q s.n.toNat ≤ (cutB b s).1 := by
  obtain ⟨_, h2⟩ := sum_le hb hs h s.n.toNat 0 (by omega)
  have h3 := h.in_ hs (Nat.zero_le s.n.toNat)
  obtain ⟨k, hk⟩ : ∃ k : Nat, q 0 = (k : Int) := ⟨(q 0).toNat, by omega⟩
  have h4 := (cut_first hb hc).2.2.2.1 k (by omega)
  rw [← hk] at h4
  have h5 : sumQ b s.gap q 0 = 0 := rfl
  omega
theorem own_cuts {c : List Tnt} {ls : List Lds} {s : Scl} (h : CutOk c ls s) : Cuts s (frN (ls.map (toB c)) s (cutB (ls.map (toB c)) s).2.1) := by
  obtain ⟨h1, h2, h3, h4, h5⟩ := cut_first h.b h.i
  refine ⟨h1.1, (frN_ok h.b h.z h1.1 h1.2 h2 _ (Nat.le_refl _)).1.2, fun k hk => ?_⟩
  obtain ⟨h6, _⟩ := frN_next h.b h.z h1.1 h1.2 h2 hk
  omega
theorem own_sum {c : List Tnt} {ls : List Lds} {s : Scl} (h : CutOk c ls s) : sumQ (ls.map (toB c)) s.gap (frN (ls.map (toB c)) s (cutB (ls.map (toB c)) s).2.1) s.n.toNat = (cutB (ls.map (toB c)) s).1 := by
  obtain ⟨h1, h2, h3, h4, h5⟩ := cut_first h.b h.i
  have key : ∀ k, k ≤ s.n.toNat → sumQ (ls.map (toB c)) s.gap (frN (ls.map (toB c)) s (cutB (ls.map (toB c)) s).2.1) k = mostF (ls.map (toB c)) s s.n.toNat (cutB (ls.map (toB c)) s).2.1 - mostF (ls.map (toB c)) s (s.n.toNat - k) (frN (ls.map (toB c)) s (cutB (ls.map (toB c)) s).2.1 k) := fun k => by
    induction k with
    | zero => intro _; show (0 : Int) = _ - mostF _ _ s.n.toNat _; simp [frN]
    | succ k ih =>
      intro hk
      obtain ⟨_, h6⟩ := frN_next h.b h.z h1.1 h1.2 h2 (k := k) (by omega)
      have := ih (by omega)
      rw [sumQ, this]
      omega
  rw [key _ (Nat.le_refl _), Nat.sub_self, h3]
  simp [mostF]
/-- If as many are sold with other cuts, the first that differs comes later. -/
theorem other_later {c : List Tnt} {ls : List Lds} {s : Scl} (h : CutOk c ls s) {q : Nat → Int} (hq : Cuts s q) (he : sumQ (ls.map (toB c)) s.gap q s.n.toNat = (cutB (ls.map (toB c)) s).1) {i : Nat} (hi : i ≤ s.n.toNat)
    (hp : ∀ j, j < i → frN (ls.map (toB c)) s (cutB (ls.map (toB c)) s).2.1 j = q j) : frN (ls.map (toB c)) s (cutB (ls.map (toB c)) s).2.1 i ≤ q i := by
  obtain ⟨h1, h2, h3, h4, h5⟩ := cut_first h.b h.i
  have eqs : ∀ k, k ≤ s.n.toNat → sumQ (ls.map (toB c)) s.gap q s.n.toNat - sumQ (ls.map (toB c)) s.gap q k = mostF (ls.map (toB c)) s (s.n.toNat - k) (q k) := fun k => by
    induction k with
    | zero =>
      intro _
      obtain ⟨_, k2⟩ := sum_le h.b h.z hq s.n.toNat 0 (by omega)
      have k3 := hq.in_ h.z (Nat.zero_le s.n.toNat)
      obtain ⟨k, hk⟩ : ∃ k : Nat, q 0 = (k : Int) := ⟨(q 0).toNat, by omega⟩
      have k4 := h4 k (by omega)
      rw [← hk] at k4
      have k5 : sumQ (ls.map (toB c)) s.gap q 0 = 0 := rfl
      rw [Nat.sub_zero]
      omega
    | succ k ih =>
      intro hk
      have k1 := ih (by omega)
      obtain ⟨k2, k3⟩ := sum_le h.b h.z hq (s.n.toNat - (k + 1)) (k + 1) (by omega)
      have k4 := hq.st k (by omega)
      have k5 := hq.in_ h.z (k := k + 1) (by omega)
      have k6 := mostF_ge h.b (s := s) (j := s.n.toNat - (k + 1)) (fr := q k) (to := q (k + 1)) k4.1 (by omega) k2
      rw [show s.n.toNat - (k + 1) + 1 = s.n.toNat - k by omega] at k6
      have k8 : sumQ (ls.map (toB c)) s.gap q (k + 1) = sumQ (ls.map (toB c)) s.gap q k + soldF (ls.map (toB c)) s.gap (q k) (q (k + 1)) := rfl
      omega
  cases i with
  | zero =>
    show (cutB (ls.map (toB c)) s).2.1 ≤ q 0
    rcases Int.lt_or_le (q 0) (cutB (ls.map (toB c)) s).2.1 with hlt | hle
    · exfalso
      have k3 := hq.in_ h.z (Nat.zero_le s.n.toNat)
      obtain ⟨k, hk⟩ : ∃ k : Nat, q 0 = (k : Int) := ⟨(q 0).toNat, by omega⟩
      have k4 := h5 k (by omega)
      rw [← hk] at k4
      have k5 := eqs 0 (by omega)
      have k6 : sumQ (ls.map (toB c)) s.gap q 0 = 0 := rfl
      rw [Nat.sub_zero] at k5
      omega
    · exact hle
  | succ k =>
    have k1 := eqs k (by omega)
    have k2 := eqs (k + 1) hi
    obtain ⟨k3, _⟩ := sum_le h.b h.z hq (s.n.toNat - (k + 1)) (k + 1) (by omega)
    have k4 := hq.st k (by omega)
    have k5 := hq.in_ h.z hi
    have k8 : sumQ (ls.map (toB c)) s.gap q (k + 1) = sumQ (ls.map (toB c)) s.gap q k + soldF (ls.map (toB c)) s.gap (q k) (q (k + 1)) := rfl
    have k9 : rstF (ls.map (toB c)) s (s.n.toNat - (k + 1)) (q k) (q (k + 1)) = mostF (ls.map (toB c)) s (s.n.toNat - k) (q k) := by
      unfold rstF
      rw [if_neg k3]
      omega
    show (bestR (ls.map (toB c)) s (s.n.toNat - k - 1) (frN (ls.map (toB c)) s (cutB (ls.map (toB c)) s).2.1 k)).2.1 ≤ q (k + 1)
    rw [hp k (by omega), show s.n.toNat - k - 1 = s.n.toNat - (k + 1) by omega]
    have em : mostF (ls.map (toB c)) s (s.n.toNat - k) (q k) = if (bestR (ls.map (toB c)) s (s.n.toNat - (k + 1)) (q k)).2.2 then (bestR (ls.map (toB c)) s (s.n.toNat - (k + 1)) (q k)).1 else -1 := by
      have := mostF_succ (ls.map (toB c)) s (s.n.toNat - (k + 1)) (q k)
      rwa [show s.n.toNat - (k + 1) + 1 = s.n.toNat - k by omega] at this
    unfold bestR at em ⊢
    obtain ⟨i, hiq⟩ : ∃ i : Nat, q (k + 1) = q k + s.least + i := ⟨(q (k + 1) - (q k + s.least)).toNat, by omega⟩
    have him : i < stepsN s (q k) := by unfold stepsN; omega
    rcases bst_spec (f := rstF (ls.map (toB c)) s (s.n.toNat - (k + 1)) (q k)) (a := q k + s.least) (fun x => (rstF_B h.b s _ (q k) x).1) (stepsN s (q k)) with ⟨m1, m2⟩ | ⟨i2, m1, m2, m3, m4, m5⟩
    · have := m2 i him
      rw [← hiq, k9, em, m1] at this
      have k10 := (sum_le h.b h.z hq (s.n.toNat - k) k (by omega)).1
      rw [em, m1] at k10
      simp at k10
    · rw [m2] at em ⊢
      dsimp only at em ⊢
      rw [if_pos rfl] at em
      rcases Nat.lt_or_ge i i2 with hlt | hge
      · have := m5 i hlt
        rw [← hiq, k9, em] at this
        omega
      · omega
/-- If there are no cuts, the shades are too wide. -/
theorem most_is {b : List Bch} (hb : BOk b) {s : Scl} (hs : OkZ s) : ∀ (j : Nat) (fr : Int), 0 ≤ fr → fr + j * s.least ≤ 200 → mostF b s j fr ≠ -1
  | 0, fr, _, _ => by simp [mostF]
  | j + 1, fr, h0, h1 => by
    have hl := hs.least
    have h2 : ((j + 1 : Nat) : Int) * s.least = j * s.least + s.least := by push_cast; rw [Int.add_mul, Int.one_mul]
    rw [h2] at h1
    have h3 : 0 ≤ (j : Int) * s.least := Int.mul_nonneg (by omega) (by omega)
    have h4 := most_is hb hs j (fr + s.least) (by omega) (by omega)
    have h5 := mostF_ge hb (s := s) (j := j) (fr := fr) (to := fr + s.least) (by omega) (by omega) h4
    have h6 := mostF_B hb s j (fr + s.least)
    have h7 := sold_B10 hb s.gap fr (fr + s.least)
    omega
theorem cut_none {c : List Tnt} {ls : List Lds} {s : Scl} (hO : Opn c ls 10 (sclB s)) (hi : (cutB (ls.map (toB c)) s).2.2 = false) : 200 < s.n * s.least := by
  have hz := (sclB_iff s).1 hO.ov
  have hb := bok_open hO
  have hn := hz.n
  rcases Int.lt_or_le 200 (s.n * s.least) with h | h
  · exact h
  · exfalso
    have h1 := most_is hb hz s.n.toNat 0 (by omega) (by rw [Int.toNat_of_nonneg (by omega)]; omega)
    unfold cutB at hi
    rcases bst_spec (f := mostF (ls.map (toB c)) s s.n.toNat) (a := 0) (fun x => (mostF_B hb s _ x).1) 201 with ⟨k1, k2⟩ | ⟨i, k1, k2, _⟩
    · exact h1 (k2 0 (by omega))
    · rw [k2] at hi; cases hi
/-- Those that fit, with what they are sold as. -/
def selL (ls : List Lds) (O : Nat → Int) : Nat → List (Lds × Int)
  | 0 => []
  | g + 1 => if 0 ≤ O g then selL ls O g ++ [(ld ls g, O g)] else selL ls O g
theorem selL_len (ls : List Lds) (O : Nat → Int) : ∀ g, (selL ls O g).length ≤ g
  | 0 => Nat.le_refl _
  | g + 1 => by
    have := selL_len ls O g
    unfold selL
    split
    · rw [List.length_append]; simp; omega
    · omega
theorem selL_mem {ls : List Lds} {O : Nat → Int} {x : Lds × Int} : ∀ {g : Nat}, x ∈ selL ls O g → ∃ i, i < g ∧ x = (ld ls i, O i) ∧ 0 ≤ O i
  | 0, h => by simp [selL] at h
  | g + 1, h => by
    unfold selL at h
    split at h
    · rename_i h0
      rcases List.mem_append.1 h with h1 | h1
      · obtain ⟨i, a, b⟩ := selL_mem h1
        exact ⟨i, by omega, b⟩
      · simp at h1
        exact ⟨g, by omega, h1, h0⟩
    · obtain ⟨i, a, b⟩ := selL_mem h
      exact ⟨i, by omega, b⟩
theorem sel_ordered {c : List Tnt} {ls : List Lds} {s : Scl} (h : CutOk c ls s) {q : Nat → Int} (hq : Cuts s q) :
    ordR c ((selL ls (fun i => fxO q s.gap (bc (ls.map (toB c)) i) s.n.toNat) ls.length).map (·.1)) ((selL ls (fun i => fxO q s.gap (bc (ls.map (toB c)) i) s.n.toNat) ls.length).map (·.2)) s.gap = (0, 0, 4) := by
  obtain ⟨S, hS⟩ : ∃ S, S = selL ls (fun i => fxO q s.gap (bc (ls.map (toB c)) i) s.n.toNat) ls.length := ⟨_, rfl⟩
  rw [← hS]
  have hmem : ∀ x ∈ S, x.1 ∈ ls ∧ ∃ k : Nat, k < s.n.toNat ∧ x.2 = (k : Int) ∧ q k ≤ (blk c x.1).1 ∧ (blk c x.1).2 + s.gap ≤ q (k + 1) := fun x hx => by
    rw [hS] at hx
    obtain ⟨i, h1, rfl, h2⟩ := selL_mem hx
    obtain ⟨k, h3, h4, h5⟩ := fxO_some h2
    rw [bc_map c ls h1] at h5
    exact ⟨ld_mem h1, k, h3, h4, h5⟩
  have hlen : S.length ≤ 10 := by
    have := selL_len ls (fun i => fxO q s.gap (bc (ls.map (toB c)) i) s.n.toNat) ls.length
    have h2 := h.o.on
    rw [hS]
    omega
  have hgap := h.z.gap
  have hlst := h.z.least
  have hmst := h.z.most
  have hn := h.z.n
  have hV : ordV (S.map (·.1)) (S.map (·.2)) s.gap = true := by
    unfold ordV inB
    simp only [Bool.and_eq_true, decide_eq_true_eq, List.all_eq_true, List.length_map, List.mem_map]
    refine ⟨⟨trivial, by omega, by omega⟩, fun y ⟨x, hx, hy⟩ => ?_⟩
    obtain ⟨_, k, h3, h4, _⟩ := hmem x hx
    omega
  have hO : Opn c (S.map (·.1)) 10 (ordV (S.map (·.1)) (S.map (·.2)) s.gap) := by
    refine ⟨h.o.oc, by rw [List.length_map]; omega, hV, fun l hl => ?_, fun l hl => ?_⟩
    · obtain ⟨x, hx, rfl⟩ := List.mem_map.1 hl
      exact h.o.ol _ (hmem x hx).1
    · obtain ⟨x, hx, rfl⟩ := List.mem_map.1 hl
      exact h.o.ob _ (hmem x hx).1
  rcases ord_cases c (S.map (·.1)) (S.map (·.2)) s.gap with ⟨h1, _⟩ | ⟨_, ⟨I, K, h2⟩ | ⟨h3, _⟩⟩
  · exact absurd (openE_zero.2 hO) h1
  · exfalso
    have hi : I < S.length := by have := h2.i; rwa [List.length_map] at this
    have hk : K < S.length := by have := h2.k; rwa [List.length_map] at this
    have hw := h2.w
    unfold wrongB at hw
    rw [Bool.and_eq_true] at hw
    have w1 := of_decide_eq_true hw.1
    have w2 := of_decide_eq_true hw.2
    rw [← ld_get (by rw [List.length_map]; exact hi), ← ld_get (by rw [List.length_map]; exact hk), List.getElem_map, List.getElem_map] at w2
    rw [← nt_get (by rw [List.length_map]; exact hi), ← nt_get (by rw [List.length_map]; exact hk), List.getElem_map, List.getElem_map] at w1
    obtain ⟨_, a, a1, a2, a3, a4⟩ := hmem S[I] (List.getElem_mem _)
    obtain ⟨_, b, b1, b2, b3, b4⟩ := hmem S[K] (List.getElem_mem _)
    have := hq.mono h.z (show a + 1 ≤ b by omega) (by omega)
    omega
  · exact h3
theorem cutL_get (b : List Bch) (s : Scl) (f0 : Int) (n : Nat) : ∀ k (h : k < (cutL b s f0 n).length), (cutL b s f0 n)[k] = frN b s f0 k := fun k h => by
  simp [cutL]
theorem fitO_get (q : Nat → Int) (gap : Int) (m : Nat) (b : List Bch) : ∀ k (h : k < (fitO q gap m b).length), (fitO q gap m b)[k] = fxO q gap (bc b k) m := fun k h => by
  have h2 : k < b.length := by simpa [fitO] using h
  simp [fitO, bc_get h2]
def u1 (n : Nat) : List PV := [.int .u8 (n : Int)]
def byt (l : List Nat) (i : Nat) : Nat := l.getD i 0
theorem byt_get (l : List Nat) : ∀ k (h : k < l.length), l[k] = byt l k := fun k h => by
  unfold byt
  rw [List.getD_eq_getElem?_getD, List.getElem?_eq_getElem h]; rfl
theorem byt_B {l : List Nat} (hl : ∀ x ∈ l, x ≤ 255) (i : Nat) : byt l i ≤ 255 := by
  rcases Nat.lt_or_ge i l.length with h | h
  · rw [← byt_get l i h]; exact hl _ (List.getElem_mem _)
  · unfold byt
    rw [List.getD_eq_getElem?_getD, List.getElem?_eq_none h]
    exact Nat.zero_le _
/-- The other cuts. -/
def atN (s : Scl) (ys : List Nat) (D : Nat) : Nat → Int
  | 0 => ((byt ys 0 % 201 : Nat) : Int)
  | k + 1 => atN s ys D k + (s.least + ((byt ys (k % ys.length) % D : Nat) : Int))
def atL (s : Scl) (ys : List Nat) (D n : Nat) : List Int := (List.range (n + 1)).map (atN s ys D)
theorem atL_succ (s : Scl) (ys : List Nat) (D n : Nat) : atL s ys D (n + 1) = atL s ys D n ++ [atN s ys D (n + 1)] := by
  unfold atL
  rw [List.range_succ, List.map_append]; rfl
theorem atL_len (s : Scl) (ys : List Nat) (D n : Nat) : (atL s ys D n).length = n + 1 := by simp [atL]
theorem atL_get (s : Scl) (ys : List Nat) (D n : Nat) : ∀ k (h : k < (atL s ys D n).length), (atL s ys D n)[k] = atN s ys D k := fun k h => by
  simp [atL]
theorem atN_B {s : Scl} (hs : OkZ s) (ys : List Nat) {D : Nat} (hD : s.most - s.least + 1 = (D : Int)) : ∀ k : Nat, 0 ≤ atN s ys D k ∧ atN s ys D k ≤ 201 * (k + 1)
  | 0 => by
    have := Nat.mod_lt (byt ys 0) (show 0 < 201 by omega)
    unfold atN
    omega
  | k + 1 => by
    have h1 := atN_B hs ys hD k
    have hl := hs.least
    have hm := hs.most
    have := Nat.mod_lt (byt ys (k % ys.length)) (show 0 < D by omega)
    unfold atN
    push_cast
    omega
theorem at_cuts {s : Scl} (hs : OkZ s) (ys : List Nat) {D : Nat} (hD : s.most - s.least + 1 = (D : Int)) (h : atN s ys D s.n.toNat ≤ 200) : Cuts s (atN s ys D) := by
  refine ⟨(atN_B hs ys hD 0).1, h, fun k hk => ?_⟩
  have hl := hs.least
  have := Nat.mod_lt (byt ys (k % ys.length)) (show 0 < D by omega)
  show atN s ys D k + s.least ≤ atN s ys D k + _ ∧ atN s ys D k + _ ≤ atN s ys D k + s.most
  omega
end Go.Proofs.Ythiapodcippnoaa
