/-
  What a sack adds.
-/
import Derived.Test.YtmcejcidbekpkaaSkFacts
import Derived.Test.YtmcejcidbekpkaaSkD
import Derived.Test.YtmcejcidbekpkaaSk1
import Derived.Test.YtmcejcidbekpkaaSk5
set_option linter.unusedVariables false
set_option maxRecDepth 100000
set_option maxHeartbeats 4000000
set_option linter.unusedSimpArgs false
namespace Go.Proofs.Ytmcejcidbekpkaa
open Go.AF
theorem states_ok (s : Sk) (m : Sp) : Pure Try.prog 76 [.agg (storeCells s m)] (.func (.func 77) [] [.ip (storeCells s m) 0]) := by
  refine Pure.start (N := 4) Try.func76 rfl rfl (Nat.le_of_ble_eq_true rfl) ?_
  refine AWp.seq ?_
  refine AWp.region ?_
  refine AList.c 1 rfl rfl rfl (OpJ.boxImm rfl rfl rfl) ?_
  refine AList.c 2 rfl rfl rfl (OpJ.assign rfl rfl) ?_
  refine AList.nil ?_
  refine AWp.seq ?_
  refine AWp.region ?_
  refine AList.c 3 rfl rfl rfl (OpJ.makeFunc rfl rfl rfl) ?_
  refine AList.c 2 rfl rfl rfl (OpJ.assign rfl rfl) ?_
  refine AList.nil ?_
  refine AWp.ret ?_
  exact Fin.one rfl (rfl)
theorem adds_ok (s : Sk) (m : Sp) (fn : Fn) (fi ca : List PV) (F : Nat → Int) (hm : 0 ≤ m.lo ∧ m.lo ≤ m.hi ∧ m.hi ≤ 800000) (hF : ∀ j, j < 8 → -2000000000000 ≤ F j ∧ F j ≤ 2000000000000) (hf : ∀ j, j < 8 → FPure Try.prog (.func fn fi ca) [stateV s j] (.int .i64 (F j))) : Pure Try.prog 69 [.agg (storeCells s m), .func fn fi ca] (.agg [.int .i64 (mnF (fun j => min (m.lo * F j) (m.hi * F j)) 8), .int .i64 (mxF (fun j => max (m.lo * F j) (m.hi * F j)) 8)]) := by
  refine Pure.start (N := 52) Try.func69 rfl rfl (Nat.le_of_ble_eq_true rfl) ?_
  refine AWp.seq ?_
  refine AWp.region ?_
  refine AList.c 2 rfl rfl rfl (OpJ.boxImm rfl rfl rfl) ?_
  refine AList.c 3 rfl rfl rfl (OpJ.boxImm rfl rfl rfl) ?_
  refine AList.c 4 rfl rfl rfl (OpJ.allocOwn rfl zr25 rfl) ?_
  refine AList.nil ?_
  refine AWp.seq ?_
  refine AWp.region ?_
  refine AList.c 5 rfl rfl rfl (OpJ.allocOwn rfl zr4 rfl) ?_
  refine AList.c0 rfl rfl (OpJ.store rfl rfl rfl rfl rfl ty4 rfl rfl) ?_
  refine AList.nil ?_
  refine AWp.seq ?_
  refine AWp.seq ?_
  refine AWp.region ?_
  refine AList.c 10 rfl rfl rfl (OpJ.load rfl rfl ty96 rfl) ?_
  refine AList.c 11 rfl rfl rfl (OpJ.callP (states_ok s m) rfl rfl rfl rfl rf76) ?_
  refine AList.nil ?_
  refine AWp.block ?_
  refine AWp.rangeFunc 0 rfl (fun _ => rfl) rf77 (states_seq s m) (Nat.le_refl _) (Nat.zero_le _) (fun _ h => by cases h) (fun x hx => by simp [statesL] at hx; obtain ⟨j, _, rfl⟩ := hx; rfl) rfl (fun k h => h = [.cells [.p (.int .i64 (mnF (fun j => min (m.lo * F j) (m.hi * F j)) k)), .p (.int .i64 (mxF (fun j => max (m.lo * F j) (m.hi * F j)) k))] 25, .cells [.p (.bool (k == 0))] 4]) (fun c h => False) (fun _ _ h => by rw [h]; rfl) (fun _ _ h => h.elim) rfl ?_ ?_ ?_
  · skip
    intro l tmps k h x hJ hx
    subst hJ
    have hk : k < 8 := by have := (List.getElem?_eq_some_iff.1 hx).1; simpa [statesL] using this
    obtain rfl : x = [.p (stateV s k)] := by simp [statesL, hk] at hx; exact hx.symm
    have hFk := hF k hk
    have q1 := mulA (A := 2000000000000) (B := 800000) (b := m.lo) ⟨hFk.1, hFk.2⟩ ⟨hm.1, by omega⟩
    have q2 := mulA (A := 2000000000000) (B := 800000) (b := m.hi) ⟨hFk.1, hFk.2⟩ ⟨by omega, hm.2.2⟩
    refine AWp.region ?_
    refine AList.c 6 rfl rfl rfl (OpJ.allocOwn rfl zr71 rfl) ?_
    refine AList.c0 rfl rfl (OpJ.store rfl rfl rfl rfl rfl ty71 rfl rfl) ?_
    refine AList.nil ?_
    refine ⟨rfl, rfl, ?_⟩
    refine AWp.block ?_
    refine AWp.seq ?_
    refine AWp.region ?_
    refine AList.c 13 rfl rfl rfl (OpJ.load rfl rfl ty68 rfl) ?_
    refine AList.c 14 rfl rfl rfl (OpJ.load rfl rfl ty71 rfl) ?_
    refine AList.c 15 rfl rfl rfl (OpJ.callF (hf k hk) rfl rfl rfl) ?_
    refine AList.c 7 rfl rfl rfl (OpJ.assign rfl rfl) ?_
    refine AList.nil ?_
    refine AWp.seq ?_
    refine AWp.regionDraw 24 mixed (by kernel_rfl) (by decide) ?_
    refine AQuiet.cons 16 rfl rfl rfl (OpJ.fieldAddr rfl rfl fd96_1 rfl) ?_
    refine AQuiet.cons 17 rfl rfl rfl (OpJ.fieldAddr rfl rfl fd25_0 rfl) ?_
    refine AQuiet.cons 18 rfl rfl rfl (OpJ.load rfl rfl ty3 rfl) ?_
    refine AQuiet.cons 19 rfl rfl rfl (OpJ.move rfl rfl) ?_
    refine AQuiet.cons 20 rfl rfl rfl (OpJ.mul rfl rfl rfl (i64ok ?_)) ?_
    · omega
    refine AQuiet.cons 21 rfl rfl rfl (OpJ.fieldAddr rfl rfl fd96_1 rfl) ?_
    refine AQuiet.cons 22 rfl rfl rfl (OpJ.fieldAddr rfl rfl fd25_1 rfl) ?_
    refine AQuiet.cons 23 rfl rfl rfl (OpJ.load rfl rfl ty3 rfl) ?_
    refine AQuiet.cons 24 rfl rfl rfl (OpJ.move rfl rfl) ?_
    refine AQuiet.cons 25 rfl rfl rfl (OpJ.mul rfl rfl rfl (i64ok ?_)) ?_
    · omega
    refine AQuiet.cons 26 rfl rfl rfl (OpJ.min2 rfl rfl rfl) ?_
    refine AQuiet.cons 27 rfl rfl rfl (OpJ.fieldAddr rfl rfl fd96_1 rfl) ?_
    refine AQuiet.cons 28 rfl rfl rfl (OpJ.fieldAddr rfl rfl fd25_0 rfl) ?_
    refine AQuiet.cons 29 rfl rfl rfl (OpJ.load rfl rfl ty3 rfl) ?_
    refine AQuiet.cons 30 rfl rfl rfl (OpJ.move rfl rfl) ?_
    refine AQuiet.cons 31 rfl rfl rfl (OpJ.mul rfl rfl rfl (i64ok ?_)) ?_
    · omega
    refine AQuiet.cons 32 rfl rfl rfl (OpJ.fieldAddr rfl rfl fd96_1 rfl) ?_
    refine AQuiet.cons 33 rfl rfl rfl (OpJ.fieldAddr rfl rfl fd25_1 rfl) ?_
    refine AQuiet.cons 34 rfl rfl rfl (OpJ.load rfl rfl ty3 rfl) ?_
    refine AQuiet.cons 35 rfl rfl rfl (OpJ.move rfl rfl) ?_
    refine AQuiet.cons 36 rfl rfl rfl (OpJ.mul rfl rfl rfl (i64ok ?_)) ?_
    · omega
    refine AQuiet.cons 37 rfl rfl rfl (OpJ.max2 rfl rfl rfl) ?_
    refine AQuiet.cons 8 rfl rfl rfl (OpJ.assign rfl rfl) ?_
    refine AQuiet.cons 9 rfl rfl rfl (OpJ.assign rfl rfl) ?_
    refine AQuiet.nil ?_
    refine AList.nil ?_
    refine AWp.seq ?_
    refine AWp.seq ?_
    refine AWp.region ?_
    refine AList.c 38 rfl rfl rfl (OpJ.load rfl rfl ty4 rfl) ?_
    refine AList.nil ?_
    refine AWp.cond _ rfl (fun hc0 => ?_) (fun hc0 => ?_)
    · skip
      refine AWp.region ?_
      refine AList.c 39 rfl rfl rfl (OpJ.move rfl rfl) ?_
      refine AList.c 40 rfl rfl rfl (OpJ.move rfl rfl) ?_
      refine AList.c 41 rfl rfl rfl (OpJ.build rfl bd25 rfl rfl) ?_
      refine AList.c0 rfl rfl (OpJ.store rfl rfl rfl rfl rfl ty25 rfl rfl) ?_
      refine AList.c0 rfl rfl (OpJ.store rfl rfl rfl rfl rfl ty4 rfl rfl) ?_
      refine AList.nil ?_
      refine AWp.region ?_
      refine AList.c 42 rfl rfl rfl (OpJ.fieldAddr rfl rfl fd25_0 rfl) ?_
      refine AList.c 43 rfl rfl rfl (OpJ.load rfl rfl ty3 rfl) ?_
      refine AList.c 44 rfl rfl rfl (OpJ.move rfl rfl) ?_
      refine AList.c 45 rfl rfl rfl (OpJ.min2 rfl rfl rfl) ?_
      refine AList.c 46 rfl rfl rfl (OpJ.fieldAddr rfl rfl fd25_1 rfl) ?_
      refine AList.c 47 rfl rfl rfl (OpJ.load rfl rfl ty3 rfl) ?_
      refine AList.c 48 rfl rfl rfl (OpJ.move rfl rfl) ?_
      refine AList.c 49 rfl rfl rfl (OpJ.max2 rfl rfl rfl) ?_
      refine AList.c 50 rfl rfl rfl (OpJ.build rfl bd25 rfl rfl) ?_
      refine AList.c0 rfl rfl (OpJ.store rfl rfl rfl rfl rfl ty25 rfl rfl) ?_
      refine AList.nil ?_
      refine ⟨_, rfl, To.done [0, 1, 2] rfl Sub.nil ?_⟩
      rcases Nat.eq_zero_or_pos k with hk0 | hk0
      · subst hk0
        first
        | exact absurd hc0 (by decide)
        | show [Blk.cells [.p (.int .i64 (min _ _)), .p (.int .i64 (max _ _))] 25, .cells [.p (.bool false)] 4, _] = _
          simp only [mnF, mxF, Int.min_self, Int.max_self, if_true]
          rfl
      · have hk1 : ¬ k = 0 := by omega
        first
        | exact absurd hc0 (by simp; omega)
        | show [Blk.cells [.p (.int .i64 (min _ _)), .p (.int .i64 (max _ _))] 25, .cells [.p (.bool (k == 0))] 4, _] = _
          rw [hc0]
          simp only [mnF, mxF, if_neg hk1]
          rfl
    · skip
      refine AWp.skip ?_
      refine AWp.region ?_
      refine AList.c 42 rfl rfl rfl (OpJ.fieldAddr rfl rfl fd25_0 rfl) ?_
      refine AList.c 43 rfl rfl rfl (OpJ.load rfl rfl ty3 rfl) ?_
      refine AList.c 44 rfl rfl rfl (OpJ.move rfl rfl) ?_
      refine AList.c 45 rfl rfl rfl (OpJ.min2 rfl rfl rfl) ?_
      refine AList.c 46 rfl rfl rfl (OpJ.fieldAddr rfl rfl fd25_1 rfl) ?_
      refine AList.c 47 rfl rfl rfl (OpJ.load rfl rfl ty3 rfl) ?_
      refine AList.c 48 rfl rfl rfl (OpJ.move rfl rfl) ?_
      refine AList.c 49 rfl rfl rfl (OpJ.max2 rfl rfl rfl) ?_
      refine AList.c 50 rfl rfl rfl (OpJ.build rfl bd25 rfl rfl) ?_
      refine AList.c0 rfl rfl (OpJ.store rfl rfl rfl rfl rfl ty25 rfl rfl) ?_
      refine AList.nil ?_
      refine ⟨_, rfl, To.done [0, 1, 2] rfl Sub.nil ?_⟩
      rcases Nat.eq_zero_or_pos k with hk0 | hk0
      · subst hk0
        first
        | exact absurd hc0 (by decide)
        | show [Blk.cells [.p (.int .i64 (min _ _)), .p (.int .i64 (max _ _))] 25, .cells [.p (.bool false)] 4, _] = _
          simp only [mnF, mxF, Int.min_self, Int.max_self, if_true]
          rfl
      · have hk1 : ¬ k = 0 := by omega
        first
        | exact absurd hc0 (by simp; omega)
        | show [Blk.cells [.p (.int .i64 (min _ _)), .p (.int .i64 (max _ _))] 25, .cells [.p (.bool (k == 0))] 4, _] = _
          rw [hc0]
          simp only [mnF, mxF, if_neg hk1]
          rfl
  · skip
    intro h hJ
    subst hJ
    refine AWp.seq ?_
    refine AWp.region ?_
    refine AList.c 51 rfl rfl rfl (OpJ.load rfl rfl ty25 rfl) ?_
    refine AList.c0 rfl rfl (OpJ.store rfl rfl rfl rfl rfl ty25 rfl rfl) ?_
    refine AList.nil ?_
    refine AWp.ret ?_
    refine Fin.oneE rfl ⟨_, _, _, rfl, ty25, rfl⟩ ?_
    rfl
  · skip
    intro c h hx
    exact hx.elim
end Go.Proofs.Ytmcejcidbekpkaa
