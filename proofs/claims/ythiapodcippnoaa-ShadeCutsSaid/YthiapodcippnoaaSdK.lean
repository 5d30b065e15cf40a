/-
  Plain laws of chapter 2: the document's table of what can be sold, and its cuts, are those of the best cuts. No program in sight.
-/
import Derived.Test.YthiapodcippnoaaSdB
import Derived.Test.YthiapodcippnoaaAfM
set_option linter.unusedVariables false
set_option linter.unusedSimpArgs false
namespace Go.Proofs.Ythiapodcippnoaa
open Go.AF
/-- The most of so many values that are not below 0; below 0: none is. -/
def mxF (f : Int → Int) (a : Int) : Nat → Int
  | 0 => -1
  | m + 1 => if f (a + m) = -1 then mxF f a m else max (mxF f a m) (f (a + m))
theorem mxF_bst {f : Int → Int} (hf : ∀ x, -1 ≤ f x) (a : Int) : ∀ m, mxF f a m = if (bstF f a m).2.2 then (bstF f a m).1 else -1
  | 0 => rfl
  | m + 1 => by
    have ih := mxF_bst hf a m
    have hm := hf (a + m)
    have hB : (bstF f a m).2.2 = true → -1 ≤ (bstF f a m).1 := fun h => by
      rcases bst_spec (a := a) hf m with ⟨h1, _⟩ | ⟨i, _, h1, _⟩
      · rw [h1] at h; cases h
      · rw [h1]; exact hf _
    unfold mxF
    rw [ih]
    by_cases h : f (a + m) = -1
    · rw [if_pos h]
      have e : bstF f a (m + 1) = bstF f a m := if_neg fun h2 => h2.1 h
      rw [e]
    · rw [if_neg h]
      cases hk : (bstF f a m).2.2 with
      | false =>
        have e : bstF f a (m + 1) = (f (a + m), a + m, true) := if_pos ⟨h, .inl hk⟩
        rw [e]
        simp
        omega
      | true =>
        by_cases h2 : (bstF f a m).1 < f (a + m)
        · have e : bstF f a (m + 1) = (f (a + m), a + m, true) := if_pos ⟨h, .inr h2⟩
          rw [e]
          simp
          omega
        · have e : bstF f a (m + 1) = bstF f a m := if_neg fun h3 => by
            rcases h3.2 with h4 | h4
            · rw [hk] at h4; cases h4
            · exact h2 h4
          rw [e, hk]
          simp
          omega
theorem mxF_most {b : List Bch} (hb : BOk b) (s : Scl) (j : Nat) (fr : Int) : mxF (rstF b s j fr) (fr + s.least) (stepsN s fr) = mostF b s (j + 1) fr :=
  mxF_bst (fun x => (rstF_B hb s j fr x).1) _ _
theorem mxF_B {f : Int → Int} {a B : Int} (hf : ∀ x, -1 ≤ f x ∧ f x ≤ B) : ∀ m, -1 ≤ mxF f a m ∧ mxF f a m ≤ max (-1) B
  | 0 => by unfold mxF; omega
  | m + 1 => by
    have ih := mxF_B (a := a) hf m
    have := hf (a + m)
    unfold mxF
    split <;> omega
/-- Where the most is, as a search finds it. -/
def argN (f : Int → Int) : Nat → Nat
  | 0 => 0
  | i + 1 => if f (argN f i) < f i then i else argN f i
theorem argN_lt (f : Int → Int) : ∀ i, argN f (i + 1) ≤ i
  | 0 => by unfold argN; split <;> first | exact Nat.le_refl _ | exact Nat.le_refl _
  | i + 1 => by
    have := argN_lt f i
    rw [argN]
    split <;> omega
theorem argN_le (f : Int → Int) : ∀ i, argN f i ≤ i
  | 0 => Nat.le_refl _
  | i + 1 => Nat.le_succ_of_le (argN_lt f i)
theorem arg_bst {f : Int → Int} (hf : ∀ x, -1 ≤ f x) : ∀ i, ((bstF f 0 i).2.2 = true → ((argN f i : Nat) : Int) = (bstF f 0 i).2.1 ∧ (bstF f 0 i).1 = f (argN f i)) ∧ ((bstF f 0 i).2.2 = false → argN f i = 0 ∧ ∀ k : Nat, k < i → f k = -1)
  | 0 => ⟨fun h => by simp [bstF] at h, fun _ => ⟨rfl, fun k hk => absurd hk (by omega)⟩⟩
  | i + 1 => by
    obtain ⟨h1, h2⟩ := arg_bst hf i
    have hi := hf (i : Int)
    have z : (0 : Int) + (i : Int) = i := Int.zero_add _
    by_cases hn : f (i : Int) = -1
    · have e : bstF f 0 (i + 1) = bstF f 0 i := if_neg fun h => h.1 (by rw [z]; exact hn)
      have ea : argN f (i + 1) = argN f i := if_neg (by have := hf ((argN f i : Nat) : Int); omega)
      rw [e, ea]
      refine ⟨h1, fun h => ⟨(h2 h).1, fun k hk => ?_⟩⟩
      rcases Nat.lt_succ_iff_lt_or_eq.1 hk with h3 | rfl
      · exact (h2 h).2 k h3
      · exact hn
    · cases hk : (bstF f 0 i).2.2 with
      | false =>
        obtain ⟨h3, h4⟩ := h2 hk
        have e : bstF f 0 (i + 1) = (f ((0 : Int) + i), (0 : Int) + i, true) := if_pos ⟨by rw [z]; exact hn, .inl hk⟩
        rw [e, z]
        refine ⟨fun _ => ?_, fun h => by cases h⟩
        have ea : argN f (i + 1) = i := by
          rw [argN, h3]
          rcases Nat.eq_zero_or_pos i with rfl | hp
          · split <;> rfl
          · rw [if_pos]
            have := h4 0 hp
            omega
        rw [ea]
        exact ⟨rfl, rfl⟩
      | true =>
        obtain ⟨h3, h4⟩ := h1 hk
        by_cases hlt : (bstF f 0 i).1 < f (i : Int)
        · have e : bstF f 0 (i + 1) = (f ((0 : Int) + i), (0 : Int) + i, true) := if_pos ⟨by rw [z]; exact hn, .inr (by rw [z]; exact hlt)⟩
          have ea : argN f (i + 1) = i := if_pos (by rw [← h4]; exact hlt)
          rw [e, ea, z]
          exact ⟨fun _ => ⟨rfl, rfl⟩, fun h => by cases h⟩
        · have e : bstF f 0 (i + 1) = bstF f 0 i := if_neg fun h => by
            rcases h.2 with h5 | h5
            · rw [hk] at h5; cases h5
            · rw [z] at h5; exact hlt h5
          have ea : argN f (i + 1) = argN f i := if_neg (by rw [← h4]; exact hlt)
          rw [e, ea]
          exact ⟨fun _ => ⟨h3, h4⟩, fun h => by rw [hk] at h; cases h⟩
theorem arg_cut {b : List Bch} (hb : BOk b) (s : Scl) : ((cutB b s).2.2 = true → ((argN (mostF b s s.n.toNat) 201 : Nat) : Int) = (cutB b s).2.1 ∧ (cutB b s).1 = mostF b s s.n.toNat (argN (mostF b s s.n.toNat) 201)) ∧
    ((cutB b s).2.2 = false → mostF b s s.n.toNat (argN (mostF b s s.n.toNat) 201) = -1) := by
  have h := arg_bst (f := mostF b s s.n.toNat) (fun x => (mostF_B hb s _ x).1) 201
  refine ⟨h.1, fun h2 => ?_⟩
  have h3 := h.2 h2
  rw [h3.1]
  exact h3.2 0 (by omega)
/-- The next cut is the first one with which as many can be sold. -/
theorem next_cut {b : List Bch} (hb : BOk b) {s : Scl} (hs : OkZ s) {f0 : Int} (h0 : 0 ≤ f0) (h1 : f0 ≤ 200) (hm : mostF b s s.n.toNat f0 ≠ -1) {k : Nat} (hk : k < s.n.toNat) {i : Nat}
    (hi : ∀ j : Nat, j < i → mostF b s (s.n.toNat - (k + 1)) (frN b s f0 k + s.least + j) = -1 ∨ mostF b s (s.n.toNat - (k + 1)) (frN b s f0 k + s.least + j) + soldF b s.gap (frN b s f0 k) (frN b s f0 k + s.least + j) ≠ mostF b s (s.n.toNat - k) (frN b s f0 k)) :
    frN b s f0 k + s.least + i ≤ frN b s f0 (k + 1) := by
  obtain ⟨h2, h3⟩ := frN_next hb hs h0 h1 hm hk
  obtain ⟨h4, h5⟩ := frN_ok hb hs h0 h1 hm (k + 1) (by omega)
  rcases Int.lt_or_le (frN b s f0 (k + 1)) (frN b s f0 k + s.least + i) with hlt | hge
  · exfalso
    have h6 := hi (frN b s f0 (k + 1) - (frN b s f0 k + s.least)).toNat (by omega)
    rw [show frN b s f0 k + s.least + ((frN b s f0 (k + 1) - (frN b s f0 k + s.least)).toNat : Int) = frN b s f0 (k + 1) by omega] at h6
    rcases h6 with h6 | h6
    · exact h5 h6
    · exact h6 h3.symm
  · exact hge
theorem next_is {b : List Bch} (hb : BOk b) {s : Scl} (hs : OkZ s) {f0 : Int} (h0 : 0 ≤ f0) (h1 : f0 ≤ 200) (hm : mostF b s s.n.toNat f0 ≠ -1) {k : Nat} (hk : k < s.n.toNat) {i : Nat} (hle : frN b s f0 k + s.least + i ≤ frN b s f0 (k + 1))
    (hq : mostF b s (s.n.toNat - (k + 1)) (frN b s f0 k + s.least + i) ≠ -1) (he : mostF b s (s.n.toNat - (k + 1)) (frN b s f0 k + s.least + i) + soldF b s.gap (frN b s f0 k) (frN b s f0 k + s.least + i) = mostF b s (s.n.toNat - k) (frN b s f0 k)) :
    frN b s f0 (k + 1) = frN b s f0 k + s.least + i := by
  rcases Int.lt_or_le (frN b s f0 k + s.least + i) (frN b s f0 (k + 1)) with hlt | hge
  · exfalso
    obtain ⟨h2, h3⟩ := frN_next hb hs h0 h1 hm hk
    obtain ⟨_, h5⟩ := frN_ok hb hs h0 h1 hm k (by omega)
    have e : s.n.toNat - k = (s.n.toNat - k - 1) + 1 := by omega
    have ej : s.n.toNat - (k + 1) = s.n.toNat - k - 1 := by omega
    have hb1 : frN b s f0 (k + 1) = (bestR b s (s.n.toNat - k - 1) (frN b s f0 k)).2.1 := rfl
    rcases bst_spec (f := rstF b s (s.n.toNat - k - 1) (frN b s f0 k)) (a := frN b s f0 k + s.least) (fun x => (rstF_B hb s _ _ x).1) (stepsN s (frN b s f0 k)) with ⟨k1, k2⟩ | ⟨m, k1, k2, k3, k4, k5⟩
    · rw [e, mostF_succ] at h5
      unfold bestR at h5
      rw [k1] at h5
      exact h5 rfl
    · have hb2 : (bestR b s (s.n.toNat - k - 1) (frN b s f0 k)) = (rstF b s (s.n.toNat - k - 1) (frN b s f0 k) (frN b s f0 k + s.least + m), frN b s f0 k + s.least + m, true) := k2
      rw [hb1, hb2] at hlt
      dsimp only at hlt
      have := k5 i (by omega)
      rw [e, mostF_succ, hb2] at he
      simp only [if_true] at he
      rw [ej] at hq he
      have hr : rstF b s (s.n.toNat - k - 1) (frN b s f0 k) (frN b s f0 k + s.least + i) = mostF b s (s.n.toNat - k - 1) (frN b s f0 k + s.least + i) + soldF b s.gap (frN b s f0 k) (frN b s f0 k + s.least + i) := by
        unfold rstF
        rw [if_neg hq]
      rw [hr] at this
      omega
  · omega
/-- Rows of the document's table. -/
def rowL (b : List Bch) (s : Scl) (j g : Nat) : List Int := (List.range g).map fun i => mostF b s j ((i : Nat) : Int)
theorem rowL_succ (b : List Bch) (s : Scl) (j g : Nat) : rowL b s j (g + 1) = rowL b s j g ++ [mostF b s j ((g : Nat) : Int)] := by
  unfold rowL
  rw [List.range_succ, List.map_append]; rfl
theorem rowL_len (b : List Bch) (s : Scl) (j g : Nat) : (rowL b s j g).length = g := by simp [rowL]
theorem rowL_get (b : List Bch) (s : Scl) (j g : Nat) : ∀ k (h : k < (rowL b s j g).length), (rowL b s j g)[k] = mostF b s j ((k : Nat) : Int) := fun k h => by
  simp [rowL]
def rowV (b : List Bch) (s : Scl) (j : Nat) : V := .p (.is ((rowL b s j 201).flatMap i1) 201)
/-- The document's table while row k is made: nothing before it, x, all rows behind it. -/
def ocV (b : List Bch) (s : Scl) (N k : Nat) (x : V) : List V := List.replicate k (V.p .nilSlice) ++ x :: (List.range (N - k)).map fun i => rowV b s (N - k - 1 - i)
theorem ocV_len (b : List Bch) (s : Scl) {N k : Nat} (h : k ≤ N) (x : V) : (ocV b s N k x).length = N + 1 := by
  unfold ocV
  rw [List.length_append, List.length_replicate, List.length_cons, List.length_map, List.length_range]
  omega
theorem ocV_at (b : List Bch) (s : Scl) (N k : Nat) (x : V) : (ocV b s N k x)[k]? = some x := by
  unfold ocV
  rw [List.getElem?_append_right (by rw [List.length_replicate]; exact Nat.le_refl _), List.length_replicate, Nat.sub_self]
  rfl
theorem ocV_after (b : List Bch) (s : Scl) {N k j : Nat} (x : V) (hk : k < j) (hj : j ≤ N) : (ocV b s N k x)[j]? = some (rowV b s (N - j)) := by
  unfold ocV
  rw [List.getElem?_append_right (by rw [List.length_replicate]; omega), List.length_replicate, show j - k = (j - k - 1) + 1 by omega, List.getElem?_cons_succ, List.getElem?_map, List.getElem?_range (by omega)]
  simp only [Option.map_some]
  rw [show N - k - 1 - (j - k - 1) = N - j by omega]
theorem ocV_set (b : List Bch) (s : Scl) (N k : Nat) (x y : V) : (ocV b s N k x).set k y = ocV b s N k y := by
  unfold ocV
  rw [List.set_append_right _ _ (by rw [List.length_replicate]; exact Nat.le_refl _), List.length_replicate, Nat.sub_self]
  rfl
/-- The next row is begun. -/
theorem ocV_next (b : List Bch) (s : Scl) {N k : Nat} (h : k + 1 ≤ N) : ocV b s N (k + 1) (rowV b s (N - (k + 1))) = ocV b s N k (.p .nilSlice) := by
  unfold ocV
  rw [List.replicate_succ', List.append_assoc]
  congr 1
  show V.p .nilSlice :: rowV b s (N - (k + 1)) :: _ = V.p .nilSlice :: _
  congr 1
  rw [show N - k = (N - (k + 1)) + 1 by omega, List.range_succ_eq_map, List.map_cons, List.map_map]
  congr 1
  refine List.map_congr_left fun i _ => ?_
  show rowV b s _ = rowV b s _
  congr 1
  omega
theorem ocV_zero (b : List Bch) (s : Scl) (N : Nat) (x : V) : ocV b s N N x = List.replicate N (V.p .nilSlice) ++ [x] := by
  unfold ocV
  rw [Nat.sub_self]
  rfl
theorem ocV_ren (b : List Bch) (s : Scl) (N k : Nat) (x : V) (σ : Nat → Option Nat) : renL σ (ocV b s N k x) = ocV b s N k (renV σ x) := by
  have h1 : ∀ n : Nat, renL σ (List.replicate n (V.p .nilSlice)) = List.replicate n (V.p .nilSlice) := fun n => by
    induction n with
    | zero => rfl
    | succ n ih => rw [List.replicate_succ, renL, ih]; rfl
  have h2 : ∀ l : List Nat, renL σ (l.map fun i => rowV b s (N - k - 1 - i)) = l.map fun i => rowV b s (N - k - 1 - i) := fun l => by
    induction l with
    | nil => rfl
    | cons a l ih => rw [List.map_cons, renL, ih]; rfl
  unfold ocV
  rw [renL_app, renL, h1, h2]
theorem ocV_frz (b : List Bch) (s : Scl) (N k j : Nat) (x : V) (xs : List PV) : frzL j xs (ocV b s N k x) = ocV b s N k (frzV j xs x) := by
  have h1 : ∀ n : Nat, frzL j xs (List.replicate n (V.p .nilSlice)) = List.replicate n (V.p .nilSlice) := fun n => by
    induction n with
    | zero => rfl
    | succ n ih => rw [List.replicate_succ, frzL, ih]; rfl
  have h2 : ∀ l : List Nat, frzL j xs (l.map fun i => rowV b s (N - k - 1 - i)) = l.map fun i => rowV b s (N - k - 1 - i) := fun l => by
    induction l with
    | nil => rfl
    | cons a l ih => rw [List.map_cons, frzL, ih]; rfl
  unfold ocV
  rw [frzL_app, frzL, h1, h2]
theorem rep_flat (x : PV) : ∀ n : Nat, (List.replicate n [x]).flatten.map V.p = List.replicate n (V.p x)
  | 0 => rfl
  | n + 1 => by rw [List.replicate_succ, List.flatten_cons, List.map_append, rep_flat x n]; rfl
theorem zero_row (b : List Bch) (s : Scl) : (List.replicate 201 [PV.int .i64 0]).flatten.map V.p = ((rowL b s 0 201).flatMap i1).map V.p := by
  rw [rep_flat]
  have : ∀ n : Nat, ((rowL b s 0 n).flatMap i1).map V.p = List.replicate n (V.p (PV.int .i64 0)) := fun n => by
    induction n with
    | zero => rfl
    | succ n ih =>
      rw [rowL_succ, List.flatMap_append, List.map_append, ih, List.replicate_succ']
      rfl
  exact (this 201).symm
theorem oc_start (b : List Bch) (s : Scl) (N : Nat) (x : V) : ((List.replicate (N + 1) [PV.nilSlice]).flatten.map V.p).set N x = ocV b s N N x := by
  rw [rep_flat, List.replicate_succ', List.set_append_right _ _ (by rw [List.length_replicate]; exact Nat.le_refl _), List.length_replicate, Nat.sub_self, ocV_zero]
  rfl
theorem ocV_any (b : List Bch) (s : Scl) {N j : Nat} (hj : j ≤ N) : (ocV b s N 0 (rowV b s (N - 0)))[j]? = some (rowV b s (N - j)) := by
  rcases Nat.eq_zero_or_pos j with rfl | h
  · exact ocV_at b s N 0 _
  · exact ocV_after b s _ h hj
theorem bnT {b : Bool} (h : (!b) = true) : b = false := by cases b <;> first | rfl | cases h
theorem bnF {b : Bool} (h : (!b) = false) : b = true := by cases b <;> first | rfl | cases h
theorem openE_eq (c : List Tnt) (ls : List Lds) (most : Int) (valid : Bool) : openE c ls most valid = if okC c then (if most < ls.length then 3 else if (ls.all ldB && valid) = true then (if ls.all (blkB c) = true then 0 else 6) else 2) else 1 := by
  have h1 : ∀ p : Lds → Bool, (ls.any fun l => !p l) = !ls.all p := fun p => by rw [List.all_eq_not_any_not, Bool.not_not]
  unfold openE
  rw [h1, h1]
  by_cases hc : okC c
  · rw [if_neg (fun h => h hc), if_pos hc]
    split
    · rfl
    · cases ls.all ldB <;> cases valid <;> cases ls.all (blkB c) <;> rfl
  · rw [if_pos hc, if_neg hc]
end Go.Proofs.Ythiapodcippnoaa
