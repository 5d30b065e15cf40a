/-
  Plain laws of chapter 2: what can be sold with more batches, other scales, another order. No program in sight.
-/
import Derived.Test.YthiapodcippnoaaSdO
import Derived.Test.YthiapodcippnoaaSdC
set_option linter.unusedVariables false
set_option linter.unusedSimpArgs false
namespace Go.Proofs.Ythiapodcippnoaa
open Go.AF
theorem mostF_ge {b : List Bch} (hb : BOk b) {s : Scl} {j : Nat} {fr to : Int} (h1 : fr + s.least ≤ to) (h2 : to ≤ min 200 (fr + s.most)) (h3 : mostF b s j to ≠ -1) : mostF b s j to + soldF b s.gap fr to ≤ mostF b s (j + 1) fr := by
  have hB := mostF_B hb s j to
  have hS := sold_B10 hb s.gap fr to
  have e : rstF b s j fr to = mostF b s j to + soldF b s.gap fr to := if_neg h3
  obtain ⟨i, hi⟩ : ∃ i : Nat, to = fr + s.least + i := ⟨(to - (fr + s.least)).toNat, by omega⟩
  have him : i < stepsN s fr := by unfold stepsN; omega
  rw [mostF_succ]
  unfold bestR
  rcases bst_spec (f := rstF b s j fr) (a := fr + s.least) (fun x => (rstF_B hb s j fr x).1) (stepsN s fr) with ⟨k1, k2⟩ | ⟨i2, k1, k2, k3, k4, k5⟩
  · have := k2 i him
    rw [← hi, e] at this
    omega
  · rw [k2]
    have := k4 i him
    rw [← hi, e] at this
    exact this
theorem mostF_le {b b' : List Bch} (hb : BOk b) (hb' : BOk b') {s s' : Scl} (hl : s'.least ≤ s.least) (hm : s.most ≤ s'.most) (h : ∀ fr to, soldF b s.gap fr to ≤ soldF b' s'.gap fr to) : ∀ (j : Nat) (fr : Int), mostF b s j fr ≤ mostF b' s' j fr
  | 0, fr => by simp [mostF]
  | j + 1, fr => by
    by_cases e : mostF b s (j + 1) fr = -1
    · have := mostF_B hb' s' (j + 1) fr; omega
    · obtain ⟨_, h1, h2, h3⟩ := best_at hb e
      have h4 := mostF_le hb hb' hl hm h j (bestR b s j fr).2.1
      have h5 := mostF_B hb s j (bestR b s j fr).2.1
      have h6 := mostF_ge (s := s') (fr := fr) (to := (bestR b s j fr).2.1) (j := j) hb' (by omega) (by omega) (by omega)
      have h7 := h fr (bestR b s j fr).2.1
      omega
theorem cut_le {b b' : List Bch} (hb : BOk b) (hb' : BOk b') {s s' : Scl} (hn : s'.n = s.n) (hl : s'.least ≤ s.least) (hm : s.most ≤ s'.most) (h : ∀ fr to, soldF b s.gap fr to ≤ soldF b' s'.gap fr to) (hc : (cutB b s).2.2 = true) :
    (cutB b' s').2.2 = true ∧ (cutB b s).1 ≤ (cutB b' s').1 := by
  obtain ⟨h1, h2, h3, h4, h5⟩ := cut_first hb hc
  have h6 := mostF_le hb hb' hl hm h s.n.toNat (cutB b s).2.1
  have h7 := mostF_B hb s s.n.toNat (cutB b s).2.1
  obtain ⟨k, hk⟩ : ∃ k : Nat, (cutB b s).2.1 = (k : Int) := ⟨(cutB b s).2.1.toNat, by omega⟩
  have h8 : (cutB b' s').2.2 = true := by
    unfold cutB
    rcases bst_spec (f := mostF b' s' s'.n.toNat) (a := 0) (fun x => (mostF_B hb' s' _ x).1) 201 with ⟨k1, k2⟩ | ⟨i, k1, k2, _⟩
    · have := k2 k (by omega)
      rw [Int.zero_add, ← hk, hn] at this
      omega
    · rw [k2]
  refine ⟨h8, ?_⟩
  have h9 := (cut_first hb' h8).2.2.2.1 k (by omega)
  rw [← hk, hn] at h9
  omega
structure CutOk (c : List Tnt) (ls : List Lds) (s : Scl) : Prop where
  o : Opn c ls 10 (sclB s)
  z : OkZ s
  b : BOk (ls.map (toB c))
  i : (cutB (ls.map (toB c)) s).2.2 = true
  e : cutR c ls s = (cutL (ls.map (toB c)) s (cutB (ls.map (toB c)) s).2.1 s.n.toNat, (cutB (ls.map (toB c)) s).1, 0)
theorem cut_cases (c : List Tnt) (ls : List Lds) (s : Scl) : (∃ e : Int, e ≠ 0 ∧ cutR c ls s = ([], 0, e) ∧ (e = 4 → Opn c ls 10 (sclB s) ∧ (cutB (ls.map (toB c)) s).2.2 = false)) ∨ CutOk c ls s := by
  by_cases e : cutE c ls s = 0
  · have hO := openE_zero.1 e
    cases h : (cutB (ls.map (toB c)) s).2.2 with
    | true => exact .inr ⟨hO, (sclB_iff s).1 hO.ov, bok_open hO, h, by unfold cutR; rw [if_pos e, if_pos h]⟩
    | false => exact .inl ⟨4, by omega, by unfold cutR; rw [if_pos e, if_neg (by rw [h]; decide)], fun _ => ⟨hO, rfl⟩⟩
  · exact .inl ⟨cutE c ls s, e, by unfold cutR; rw [if_neg e], fun h => absurd h (openE_ne4 _ _ _ _)⟩
theorem cut_is {c : List Tnt} {ls : List Lds} {s : Scl} (hO : Opn c ls 10 (sclB s)) (h : (cutB (ls.map (toB c)) s).2.2 = true) : CutOk c ls s := by
  refine ⟨hO, (sclB_iff s).1 hO.ov, bok_open hO, h, ?_⟩
  unfold cutR
  rw [if_pos (show cutE c ls s = 0 from openE_zero.2 hO), if_pos h]
theorem soldX_gap {gap gap' fr to : Int} {x : Bch} (hx : 0 ≤ x.l.many) (h : gap' ≤ gap) : soldX gap fr to x ≤ soldX gap' fr to x := by
  unfold soldX
  split <;> split <;> omega
theorem sold_gap {b : List Bch} (hb : ∀ x ∈ b, 0 ≤ x.l.many) {gap gap' : Int} (h : gap' ≤ gap) (fr to : Int) : soldF b gap fr to ≤ soldF b gap' fr to := by
  unfold soldF
  induction b with
  | nil => simp
  | cons x b ih =>
    have h1 := ih fun y hy => hb y (by simp [hy])
    have h2 := soldX_gap (fr := fr) (to := to) (hb x (by simp)) h
    rw [List.map_cons, List.sum_cons, List.map_cons, List.sum_cons]
    omega
def nearS (s : Scl) (y : Nat) : Scl := ⟨s.n, s.least, s.most, max 1 (s.gap - ((y % 7 : Nat) : Int))⟩
def lowS (s : Scl) (y : Nat) : Scl := ⟨s.n, max (max 1 s.gap) (s.least - ((y % 9 : Nat) : Int)), s.most, s.gap⟩
def highS (s : Scl) (y : Nat) : Scl := ⟨s.n, s.least, min 200 (s.most + ((y % 11 : Nat) : Int)), s.gap⟩
def threeS (s : Scl) (y : Nat) : List Scl := [nearS s y, lowS s y, highS s y]
def sAt (s : Scl) (y : Nat) (i : Nat) : Scl := (threeS s y).getD i s
theorem sAt_get (s : Scl) (y : Nat) : ∀ k (h : k < (threeS s y).length), (threeS s y)[k] = sAt s y k := fun k h => by
  unfold sAt
  rw [List.getD_eq_getElem?_getD, List.getElem?_eq_getElem h]; rfl
theorem sold_three {c : List Tnt} {ls : List Lds} {s : Scl} (h : CutOk c ls s) (y i : Nat) (hi : i < 3) : CutOk c ls (sAt s y i) ∧ (cutR c ls s).2.1 ≤ (cutR c ls (sAt s y i)).2.1 := by
  have hg := h.z.gap
  have hl := h.z.least
  have hm := h.z.most
  have hn := h.z.n
  have h7 := Nat.mod_lt y (show 0 < 7 by omega)
  have h9 := Nat.mod_lt y (show 0 < 9 by omega)
  have h11 := Nat.mod_lt y (show 0 < 11 by omega)
  have key : ∀ s' : Scl, OkZ s' → s'.n = s.n → s'.least ≤ s.least → s.most ≤ s'.most → s'.gap ≤ s.gap → CutOk c ls s' ∧ (cutR c ls s).2.1 ≤ (cutR c ls s').2.1 := fun s' hz e1 e2 e3 e4 => by
    have hO : Opn c ls 10 (sclB s') := by
      have := h.o
      rw [(sclB_iff s').2 hz]
      have e5 := this.ov
      rw [e5] at this
      exact this
    obtain ⟨k1, k2⟩ := cut_le h.b h.b e1 e2 e3 (fun fr to => sold_gap (fun x hx => (h.b.x x hx).2.1) e4 fr to) h.i
    have hc := cut_is hO k1
    exact ⟨hc, by rw [h.e, hc.e]; exact k2⟩
  match i, hi with
  | 0, _ => exact key (nearS s y) ⟨hn, hm, hl, by unfold nearS; dsimp only; omega⟩ rfl (Int.le_refl _) (Int.le_refl _) (by unfold nearS; dsimp only; omega)
  | 1, _ => exact key (lowS s y) ⟨hn, hm, by unfold lowS; dsimp only; omega, by unfold lowS; dsimp only; omega⟩ rfl (by unfold lowS; dsimp only; omega) (Int.le_refl _) (Int.le_refl _)
  | 2, _ => exact key (highS s y) ⟨hn, by unfold highS; dsimp only; omega, by unfold highS; dsimp only; omega, hg⟩ rfl (Int.le_refl _) (by unfold highS; dsimp only; omega) (Int.le_refl _)
theorem sold_rich {c : List Tnt} {ls : List Lds} {s : Scl} {mo : Lds} (h : CutOk c ls s) (h0 : (cutR c (ls ++ [mo]) s).2.2 = 0) : (cutR c ls s).2.1 ≤ (cutR c (ls ++ [mo]) s).2.1 := by
  rcases cut_cases c (ls ++ [mo]) s with ⟨e, h1, h2, _⟩ | h'
  · rw [h2] at h0; exact absurd h0 h1
  · have hm : ((ls ++ [mo]).map (toB c)) = ls.map (toB c) ++ [toB c mo] := by simp
    have hx := (h'.b.x (toB c mo) (by rw [hm]; simp)).2.1
    obtain ⟨k1, k2⟩ := cut_le (s := s) (s' := s) h.b h'.b rfl (Int.le_refl _) (Int.le_refl _) (fun fr to => by
      rw [hm]
      unfold soldF
      rw [List.map_append, List.sum_append]
      have : 0 ≤ soldX s.gap fr to (toB c mo) := by unfold soldX; split <;> omega
      simp only [List.map_cons, List.map_nil, List.sum_cons, List.sum_nil]
      omega) h.i
    rw [h.e, h'.e]
    exact k2
def turnL (ls : List Lds) (y g : Nat) : List Lds := (List.range g).map fun i => ld ls ((i + y) % ls.length)
theorem turnL_succ (ls : List Lds) (y g : Nat) : turnL ls y (g + 1) = turnL ls y g ++ [ld ls ((g + y) % ls.length)] := by
  unfold turnL
  rw [List.range_succ, List.map_append]; rfl
theorem turnL_len (ls : List Lds) (y g : Nat) : (turnL ls y g).length = g := by simp [turnL]
theorem turnL_all {ls : List Lds} (y : Nat) (h0 : 0 < ls.length) : turnL ls y ls.length = ls.drop (y % ls.length) ++ ls.take (y % ls.length) := by
  have hk := Nat.mod_lt y h0
  apply List.ext_getElem
  · rw [turnL_len, List.length_append, List.length_drop, List.length_take]; omega
  · intro i h1 h2
    rw [turnL_len] at h1
    have e0 : (turnL ls y ls.length)[i]'(by rw [turnL_len]; exact h1) = ld ls ((i + y) % ls.length) := by
      unfold turnL
      rw [List.getElem_map, List.getElem_range]
    rw [e0]
    have e1 : (i + y) % ls.length = (i + y % ls.length) % ls.length := by rw [Nat.add_mod, Nat.mod_eq_of_lt h1]
    rw [List.getElem_append]
    split
    · rename_i h3
      rw [List.length_drop] at h3
      rw [List.getElem_drop, ld_get, e1, Nat.mod_eq_of_lt (by omega), Nat.add_comm]
    · rename_i h3
      rw [List.length_drop] at h3
      rw [List.getElem_take, ld_get, e1]
      congr 1
      rw [List.length_drop, Nat.mod_eq_sub_mod (by omega), Nat.mod_eq_of_lt (by omega)]
      omega
theorem turnL_mem {ls : List Lds} (y : Nat) (h0 : 0 < ls.length) {x : Lds} : x ∈ turnL ls y ls.length ↔ x ∈ ls := by
  rw [turnL_all y h0, List.mem_append, Or.comm, ← List.mem_append, List.take_append_drop]
theorem sold_turned {c : List Tnt} {ls : List Lds} {s : Scl} (y : Nat) (h : CutOk c ls s) : cutR c (turnL ls y ls.length) s = cutR c ls s := by
  rcases Nat.eq_zero_or_pos ls.length with h0 | h0
  · obtain rfl : ls = [] := List.eq_nil_of_length_eq_zero h0
    rfl
  · have hO : Opn c (turnL ls y ls.length) 10 (sclB s) := ⟨h.o.oc, by rw [turnL_len]; exact h.o.on, h.o.ov, fun x hx => h.o.ol x ((turnL_mem y h0).1 hx), fun x hx => h.o.ob x ((turnL_mem y h0).1 hx)⟩
    have hs : ∀ gap fr to, soldF ((turnL ls y ls.length).map (toB c)) gap fr to = soldF (ls.map (toB c)) gap fr to := fun gap fr to => by
      rw [turnL_all y h0]
      unfold soldF
      rw [List.map_append, List.map_append, List.sum_append, Int.add_comm, ← List.sum_append, ← List.map_append, ← List.map_append, List.take_append_drop]
    have hm : ∀ j, mostF ((turnL ls y ls.length).map (toB c)) s j = mostF (ls.map (toB c)) s j := fun j => by
      induction j with
      | zero => rfl
      | succ j ih =>
        funext fr
        simp only [mostF, ih, hs]
    have hr : ∀ j fr, bestR ((turnL ls y ls.length).map (toB c)) s j fr = bestR (ls.map (toB c)) s j fr := fun j fr => by
      unfold bestR
      congr 1
      funext to
      unfold rstF
      rw [hm, hs]
    have hf : ∀ f0 k, frN ((turnL ls y ls.length).map (toB c)) s f0 k = frN (ls.map (toB c)) s f0 k := fun f0 k => by
      induction k with
      | zero => rfl
      | succ k ih => simp only [frN, ih, hr]
    have hB : cutB ((turnL ls y ls.length).map (toB c)) s = cutB (ls.map (toB c)) s := by
      unfold cutB
      rw [hm]
    have hC := cut_is hO (by rw [hB]; exact h.i)
    rw [hC.e, h.e, hB]
    unfold cutL
    congr 1
    exact List.map_congr_left fun k _ => hf _ k
end Go.Proofs.Ythiapodcippnoaa
