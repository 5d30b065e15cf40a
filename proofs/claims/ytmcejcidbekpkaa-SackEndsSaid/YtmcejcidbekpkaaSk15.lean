/-
  Water; what is weighed.
-/
import Derived.Test.YtmcejcidbekpkaaSk14
import Derived.Test.YtmcejcidbekpkaaSk13
set_option linter.unusedVariables false
set_option maxRecDepth 100000
set_option maxHeartbeats 4000000
set_option linter.unusedSimpArgs false
namespace Go.Proofs.Ytmcejcidbekpkaa
open Go.AF
theorem water_ok (l : List Sk) (b : List Tk) (w : Sp) (hl : l.length ≤ bigN) (hb : b.length ≤ bigN) : Pure Try.prog 15 [sacksV l, takesV b, .agg [.int .i64 w.lo, .int .i64 w.hi]] (.tuple (waterR l b w)) := by
  refine Pure.start (N := 57) Try.func15 rfl rfl (Nat.le_of_ble_eq_true rfl) ?_
  refine AWp.seq ?_
  refine AWp.region ?_
  refine AList.c 5 rfl rfl rfl (OpJ.boxImm rfl rfl rfl) ?_
  refine AList.c 6 rfl rfl rfl (OpJ.allocOwn rfl zr25 rfl) ?_
  refine AList.c 7 rfl rfl rfl (OpJ.assign rfl rfl) ?_
  refine AList.nil ?_
  refine AWp.seq ?_
  refine AWp.block ?_
  refine AWp.seq ?_
  refine AWp.region ?_
  refine AList.c 11 rfl rfl rfl (OpJ.move rfl rfl) ?_
  refine AList.c 12 rfl rfl rfl (OpJ.callP (areSacks_ok _ ?_) rfl rfl rfl rfl rf30) ?_
  · assumption
  refine AList.c 13 rfl rfl rfl (OpJ.not_ rfl rfl) ?_
  refine AList.c 14 rfl rfl rfl (OpJ.move rfl rfl) ?_
  refine AList.g 15 14 rfl rfl rfl rfl rfl rfl rfl [(0, _)] (fun h => And.intro (.inl rfl) (trivial)) (fun h => (OpJ.move rfl rfl)) ?_
  refine AList.g 16 14 rfl rfl rfl rfl rfl rfl rfl [(1, _)] (fun h => And.intro (.inl rfl) (trivial)) (fun h => (OpJ.move rfl rfl)) ?_
  refine AList.g 17 14 rfl rfl rfl rfl rfl rfl rfl [(15, _), (16, _)] (fun h => And.intro (.inr ⟨_, rfl, h⟩) (And.intro (.inr ⟨_, rfl, h⟩) (trivial))) (fun h => (OpJ.callP (isBatch_ok _ _ ?_ ?_) rfl rfl rfl rfl rf31)) ?_
  · assumption
  · assumption
  refine AList.g 18 14 rfl rfl rfl rfl rfl rfl rfl [(17, _)] (fun h => And.intro (.inr ⟨_, rfl, h⟩) (trivial)) (fun h => (OpJ.not_ rfl rfl)) ?_
  refine AList.c 19 rfl rfl rfl (OpJ.or_ rfl rfl rfl ?_) ?_
  · first | (intro h; rw [h]; rfl) | (intro h; simp_all)
  refine AList.c 10 rfl rfl rfl (OpJ.assign rfl rfl) ?_
  refine AList.nil ?_
  refine AWp.cond _ rfl (fun hc0 => ?_) (fun hc0 => ?_)
  · skip
    refine AWp.seq ?_
    refine AWp.region ?_
    refine AList.c 20 rfl rfl rfl (OpJ.build rfl bd25 rfl rfl) ?_
    refine AList.c0 rfl rfl (OpJ.store rfl rfl rfl rfl rfl ty25 rfl rfl) ?_
    refine AList.c 7 rfl rfl rfl (OpJ.assign rfl rfl) ?_
    refine AList.nil ?_
    refine AWp.ret ?_
    have hv : validB l b = false := by unfold validB; simp at hc0; rcases hc0 with h | h <;> simp [h]
    refine Fin.manyE (xs := [.agg [.int .i64 0, .int .i64 0], .int .i64 1]) rfl (⟨_, _, rfl, ⟨_, _, _, rfl, ty25, rfl⟩, ⟨_, _, rfl, rfl, rfl⟩⟩) rfl ?_
    simp [waterR, hv, noSpan]
  · skip
    have hv : validB l b = true := by unfold validB; simp at hc0; simp [hc0]
    have okl : okL l := okL_of (by unfold validB at hv; simp at hv; exact hv.1)
    have okb := okB_of (n := l.length) (b := b) (by unfold validB at hv; simp at hv; exact hv.2)
    refine AWp.seq ?_
    refine AWp.region ?_
    refine AList.c 22 rfl rfl rfl (OpJ.load rfl rfl ty25 rfl) ?_
    refine AList.c 23 rfl rfl rfl (OpJ.callP (isSpan_ok _ _ _ _) rfl rfl rfl rfl rf47) ?_
    refine AList.c 24 rfl rfl rfl (OpJ.not_ rfl rfl) ?_
    refine AList.c 21 rfl rfl rfl (OpJ.assign rfl rfl) ?_
    refine AList.nil ?_
    refine AWp.cond _ rfl (fun hc1 => ?_) (fun hc1 => ?_)
    · skip
      have hw : w.ok 0 999 = false := by simp only [Bool.not_eq_true'] at hc1; exact hc1
      refine AWp.seq ?_
      refine AWp.region ?_
      refine AList.c 25 rfl rfl rfl (OpJ.build rfl bd25 rfl rfl) ?_
      refine AList.c0 rfl rfl (OpJ.store rfl rfl rfl rfl rfl ty25 rfl rfl) ?_
      refine AList.c 7 rfl rfl rfl (OpJ.assign rfl rfl) ?_
      refine AList.nil ?_
      refine AWp.ret ?_
      refine Fin.manyE (xs := [.agg [.int .i64 0, .int .i64 0], .int .i64 2]) rfl (⟨_, _, rfl, ⟨_, _, _, rfl, ty25, rfl⟩, ⟨_, _, rfl, rfl, rfl⟩⟩) rfl ?_
      simp [waterR, hv, hw, noSpan]
    · skip
      have hw : w.ok 0 999 = true := by simp only [Bool.not_eq_false'] at hc1; exact hc1
      have hwb : 0 ≤ w.lo ∧ w.lo ≤ w.hi ∧ w.hi ≤ 999 := by simp [Sp.ok] at hw; omega
      have kb1 := kB (n := w.lo) okl okb.1 (by omega)
      have kb2 := kB (n := w.hi) okl okb.1 (by omega)
      refine AWp.skip ?_
      refine AWp.seq ?_
      refine AWp.region ?_
      refine AList.c 26 rfl rfl rfl (OpJ.move rfl rfl) ?_
      refine AList.c 27 rfl rfl rfl (OpJ.move rfl rfl) ?_
      refine AList.c 28 rfl rfl rfl (OpJ.callP (newBatch_ok l b hl okb.1 okb.2) rfl rfl rfl rfl rf32) ?_
      refine AList.c 8 rfl rfl rfl (OpJ.assign rfl rfl) ?_
      refine AList.nil ?_
      refine AWp.seq ?_
      refine AWp.regionDrawA 22 (.cells ((cellsP (.agg [.int .i64 0, .int .i64 0])).map .p) 25) mixed (by kernel_rfl) (by decide) ?_
      refine AQuietA.cons 29 rfl rfl rfl (OpJ.move rfl rfl) (OpJ.move rfl rfl) ?_
      refine AQuietA.cons 30 rfl rfl rfl (OpJ.fieldAddr rfl rfl fd25_0 rfl) (OpJ.fieldAddr rfl rfl fd25_0 rfl) ?_
      refine AQuietA.cons 31 rfl rfl rfl (OpJ.load rfl rfl ty3 rfl) (OpJ.load rfl rfl ty3 rfl) ?_
      refine AQuietA.cons 32 rfl rfl rfl (OpJ.callP (lacksB_ok l b _ (by omega) okl okb.1 okb.2) rfl rfl rfl rfl rf48) (OpJ.callP (lacksB_ok l b _ (by omega) okl okb.1 okb.2) rfl rfl rfl rfl rf48) ?_
      refine AQuietA.cons 33 rfl rfl rfl (OpJ.field rfl rfl fv25_1 rfl) (OpJ.field rfl rfl fv25_1 rfl) ?_
      refine AQuietA.cons 34 rfl rfl rfl (OpJ.fieldAddr rfl rfl fd25_0 rfl) (OpJ.fieldAddr rfl rfl fd25_0 rfl) ?_
      refine AQuietA.cons 35 rfl rfl rfl (OpJ.load rfl rfl ty3 rfl) (OpJ.load rfl rfl ty3 rfl) ?_
      refine AQuietA.cons 36 rfl rfl rfl (OpJ.sub_ rfl rfl rfl (i64ok ?_)) (OpJ.sub_ rfl rfl rfl (i64ok ?_)) ?_
      · omega
      · omega
      refine AQuietA.cons 37 rfl rfl rfl (OpJ.callP (up_ok _ _ ?_ ?_) rfl rfl rfl rfl rf40) (OpJ.callP (up_ok _ _ ?_ ?_) rfl rfl rfl rfl rf40) ?_
      · omega
      · omega
      · omega
      · omega
      refine AQuietA.cons 38 rfl rfl rfl (OpJ.max2 rfl rfl rfl) (OpJ.max2 rfl rfl rfl) ?_
      refine AQuietA.cons 39 rfl rfl rfl (OpJ.move rfl rfl) (OpJ.move rfl rfl) ?_
      refine AQuietA.cons 40 rfl rfl rfl (OpJ.fieldAddr rfl rfl fd25_1 rfl) (OpJ.fieldAddr rfl rfl fd25_1 rfl) ?_
      refine AQuietA.cons 41 rfl rfl rfl (OpJ.load rfl rfl ty3 rfl) (OpJ.load rfl rfl ty3 rfl) ?_
      refine AQuietA.cons 42 rfl rfl rfl (OpJ.callP (lacksB_ok l b _ (by omega) okl okb.1 okb.2) rfl rfl rfl rfl rf48) (OpJ.callP (lacksB_ok l b _ (by omega) okl okb.1 okb.2) rfl rfl rfl rfl rf48) ?_
      refine AQuietA.cons 43 rfl rfl rfl (OpJ.field rfl rfl fv25_0 rfl) (OpJ.field rfl rfl fv25_0 rfl) ?_
      refine AQuietA.cons 44 rfl rfl rfl (OpJ.fieldAddr rfl rfl fd25_1 rfl) (OpJ.fieldAddr rfl rfl fd25_1 rfl) ?_
      refine AQuietA.cons 45 rfl rfl rfl (OpJ.load rfl rfl ty3 rfl) (OpJ.load rfl rfl ty3 rfl) ?_
      refine AQuietA.cons 46 rfl rfl rfl (OpJ.sub_ rfl rfl rfl (i64ok ?_)) (OpJ.sub_ rfl rfl rfl (i64ok ?_)) ?_
      · omega
      · omega
      refine AQuietA.cons 47 rfl rfl rfl (OpJ.callP (down_ok _ _ ?_ ?_) rfl rfl rfl rfl rf39) (OpJ.callP (down_ok _ _ ?_ ?_) rfl rfl rfl rfl rf39) ?_
      · omega
      · omega
      · omega
      · omega
      refine AQuietA.cons 48 rfl rfl rfl (OpJ.min2 rfl rfl rfl) (OpJ.min2 rfl rfl rfl) ?_
      refine AQuietA.cons 49 rfl rfl rfl (OpJ.build rfl bd25 rfl rfl) (OpJ.build rfl bd25 rfl rfl) ?_
      refine AQuietA.lay 9 rfl rfl rfl (OpJ.allocOwn rfl zr25 rfl) ?_
      refine AQuietA.nil ?_
      refine AList.c0 rfl rfl (OpJ.store rfl rfl rfl rfl rfl ty25 rfl rfl) ?_
      refine AList.nil ?_
      refine AWp.seq ?_
      refine AWp.seq ?_
      refine AWp.region ?_
      refine AList.c 50 rfl rfl rfl (OpJ.fieldAddr rfl rfl fd25_0 rfl) ?_
      refine AList.c 51 rfl rfl rfl (OpJ.load rfl rfl ty3 rfl) ?_
      refine AList.c 52 rfl rfl rfl (OpJ.fieldAddr rfl rfl fd25_1 rfl) ?_
      refine AList.c 53 rfl rfl rfl (OpJ.load rfl rfl ty3 rfl) ?_
      refine AList.c 54 rfl rfl rfl (OpJ.gtr rfl rfl rfl) ?_
      refine AList.nil ?_
      refine AWp.cond _ rfl (fun hc2 => ?_) (fun hc2 => ?_)
      · skip
        have h2 : waterHi l b w < waterLo l b w := of_decide_eq_true hc2
        refine AWp.seq ?_
        refine AWp.region ?_
        refine AList.c 55 rfl rfl rfl (OpJ.build rfl bd25 rfl rfl) ?_
        refine AList.c0 rfl rfl (OpJ.store rfl rfl rfl rfl rfl ty25 rfl rfl) ?_
        refine AList.c 7 rfl rfl rfl (OpJ.assign rfl rfl) ?_
        refine AList.nil ?_
        refine AWp.ret ?_
        refine Fin.manyE (xs := [.agg [.int .i64 0, .int .i64 0], .int .i64 4]) rfl (⟨_, _, rfl, ⟨_, _, _, rfl, ty25, rfl⟩, ⟨_, _, rfl, rfl, rfl⟩⟩) rfl ?_
        simp [waterR, hv, hw, h2, noSpan]
      · skip
        have h2 : ¬ waterHi l b w < waterLo l b w := of_decide_eq_false hc2
        refine AWp.skip ?_
        refine AWp.seq ?_
        refine AWp.region ?_
        refine AList.c 56 rfl rfl rfl (OpJ.load rfl rfl ty25 rfl) ?_
        refine AList.c0 rfl rfl (OpJ.store rfl rfl rfl rfl rfl ty25 rfl rfl) ?_
        refine AList.c 7 rfl rfl rfl (OpJ.assign rfl rfl) ?_
        refine AList.nil ?_
        refine AWp.ret ?_
        refine Fin.manyE (xs := [.agg [.int .i64 (waterLo l b w), .int .i64 (waterHi l b w)], .int .i64 0]) rfl (⟨_, _, rfl, ⟨_, _, _, rfl, ty25, rfl⟩, ⟨_, _, rfl, rfl, rfl⟩⟩) rfl ?_
        simp [waterR, hv, hw, h2]
theorem rlacksB_ok (l : List Sk) (b : List Tk) (n : Int) (hn : 0 ≤ n ∧ n ≤ 1000) (hl : okL l) (hb : okB b) : Pure Try.prog 50 [sacksV l, takesV b, .int .i64 n] (.tuple [.int .i64 (kLo l b n), .int .i64 (kHi l b n)]) := rlacks_ok l b n hl hb hn
theorem rWater_ok (l : List Sk) (b : List Tk) (w : Sp) (hl : l.length ≤ bigN) (hb : b.length ≤ bigN) : Pure Try.prog 16 [sacksV l, takesV b, .agg [.int .i64 w.lo, .int .i64 w.hi]] (.tuple (waterR l b w)) := by
  refine Pure.start (N := 63) Try.func16 rfl rfl (Nat.le_of_ble_eq_true rfl) ?_
  refine AWp.seq ?_
  refine AWp.region ?_
  refine AList.c 5 rfl rfl rfl (OpJ.boxImm rfl rfl rfl) ?_
  refine AList.c 6 rfl rfl rfl (OpJ.allocOwn rfl zr25 rfl) ?_
  refine AList.c 7 rfl rfl rfl (OpJ.assign rfl rfl) ?_
  refine AList.nil ?_
  refine AWp.seq ?_
  refine AWp.seq ?_
  refine AWp.region ?_
  refine AList.c 13 rfl rfl rfl (OpJ.move rfl rfl) ?_
  refine AList.c 14 rfl rfl rfl (OpJ.callP (rSacks_ok _ ?_) rfl rfl rfl rfl rf19) ?_
  · assumption
  refine AList.c 15 rfl rfl rfl (OpJ.not_ rfl rfl) ?_
  refine AList.c 16 rfl rfl rfl (OpJ.move rfl rfl) ?_
  refine AList.g 17 16 rfl rfl rfl rfl rfl rfl rfl [(0, _)] (fun h => And.intro (.inl rfl) (trivial)) (fun h => (OpJ.move rfl rfl)) ?_
  refine AList.g 18 16 rfl rfl rfl rfl rfl rfl rfl [(1, _)] (fun h => And.intro (.inl rfl) (trivial)) (fun h => (OpJ.move rfl rfl)) ?_
  refine AList.g 19 16 rfl rfl rfl rfl rfl rfl rfl [(17, _), (18, _)] (fun h => And.intro (.inr ⟨_, rfl, h⟩) (And.intro (.inr ⟨_, rfl, h⟩) (trivial))) (fun h => (OpJ.callP (rBatch_ok _ _ ?_ ?_) rfl rfl rfl rfl rf20)) ?_
  · assumption
  · assumption
  refine AList.g 20 16 rfl rfl rfl rfl rfl rfl rfl [(19, _)] (fun h => And.intro (.inr ⟨_, rfl, h⟩) (trivial)) (fun h => (OpJ.not_ rfl rfl)) ?_
  refine AList.c 21 rfl rfl rfl (OpJ.or_ rfl rfl rfl ?_) ?_
  · first | (intro h; rw [h]; rfl) | (intro h; simp_all)
  refine AList.nil ?_
  refine AWp.cond _ rfl (fun hc0 => ?_) (fun hc0 => ?_)
  · skip
    refine AWp.seq ?_
    refine AWp.region ?_
    refine AList.c 22 rfl rfl rfl (OpJ.build rfl bd25 rfl rfl) ?_
    refine AList.c0 rfl rfl (OpJ.store rfl rfl rfl rfl rfl ty25 rfl rfl) ?_
    refine AList.c 7 rfl rfl rfl (OpJ.assign rfl rfl) ?_
    refine AList.nil ?_
    refine AWp.ret ?_
    have hv : validB l b = false := by unfold validB; simp at hc0; rcases hc0 with h | h <;> simp [h]
    refine Fin.manyE (xs := [.agg [.int .i64 0, .int .i64 0], .int .i64 1]) rfl (⟨_, _, rfl, ⟨_, _, _, rfl, ty25, rfl⟩, ⟨_, _, rfl, rfl, rfl⟩⟩) rfl ?_
    simp [waterR, hv, noSpan]
  · skip
    have hv : validB l b = true := by unfold validB; simp at hc0; simp [hc0]
    have okl : okL l := okL_of (by unfold validB at hv; simp at hv; exact hv.1)
    have okb := okB_of (n := l.length) (b := b) (by unfold validB at hv; simp at hv; exact hv.2)
    refine AWp.skip ?_
    refine AWp.seq ?_
    refine AWp.seq ?_
    refine AWp.region ?_
    refine AList.c 23 rfl rfl rfl (OpJ.load rfl rfl ty25 rfl) ?_
    refine AList.c 24 rfl rfl rfl (OpJ.callP (rspan_ok _ _ _ _) rfl rfl rfl rfl rf49) ?_
    refine AList.c 25 rfl rfl rfl (OpJ.not_ rfl rfl) ?_
    refine AList.nil ?_
    refine AWp.cond _ rfl (fun hc1 => ?_) (fun hc1 => ?_)
    · skip
      have hw : w.ok 0 999 = false := by simp only [Bool.not_eq_true'] at hc1; exact hc1
      refine AWp.seq ?_
      refine AWp.region ?_
      refine AList.c 26 rfl rfl rfl (OpJ.build rfl bd25 rfl rfl) ?_
      refine AList.c0 rfl rfl (OpJ.store rfl rfl rfl rfl rfl ty25 rfl rfl) ?_
      refine AList.c 7 rfl rfl rfl (OpJ.assign rfl rfl) ?_
      refine AList.nil ?_
      refine AWp.ret ?_
      refine Fin.manyE (xs := [.agg [.int .i64 0, .int .i64 0], .int .i64 2]) rfl (⟨_, _, rfl, ⟨_, _, _, rfl, ty25, rfl⟩, ⟨_, _, rfl, rfl, rfl⟩⟩) rfl ?_
      simp [waterR, hv, hw, noSpan]
    · skip
      have hw : w.ok 0 999 = true := by simp only [Bool.not_eq_false'] at hc1; exact hc1
      have hwb : 0 ≤ w.lo ∧ w.lo ≤ w.hi ∧ w.hi ≤ 999 := by simp [Sp.ok] at hw; omega
      have kb1 := kB (n := w.lo) okl okb.1 (by omega)
      have kb2 := kB (n := w.hi) okl okb.1 (by omega)
      refine AWp.skip ?_
      refine AWp.seq ?_
      refine AWp.region ?_
      refine AList.c 28 rfl rfl rfl (OpJ.move rfl rfl) ?_
      refine AList.c 29 rfl rfl rfl (OpJ.move rfl rfl) ?_
      refine AList.c 30 rfl rfl rfl (OpJ.fieldAddr rfl rfl fd25_0 rfl) ?_
      refine AList.c 31 rfl rfl rfl (OpJ.load rfl rfl ty3 rfl) ?_
      refine AList.c 32 rfl rfl rfl (OpJ.callP (rlacksB_ok l b _ (by omega) okl okb.1) rfl rfl rfl rfl rf50) ?_
      refine AList.c 27 rfl rfl rfl (OpJ.move rfl rfl) ?_
      refine AList.c 33 rfl rfl rfl (OpJ.extract rfl rfl rfl) ?_
      refine AList.c 34 rfl rfl rfl (OpJ.extract rfl rfl rfl) ?_
      refine AList.c 8 rfl rfl rfl (OpJ.assign rfl rfl) ?_
      refine AList.c 9 rfl rfl rfl (OpJ.assign rfl rfl) ?_
      refine AList.nil ?_
      refine AWp.seq ?_
      refine AWp.region ?_
      refine AList.c 36 rfl rfl rfl (OpJ.move rfl rfl) ?_
      refine AList.c 37 rfl rfl rfl (OpJ.move rfl rfl) ?_
      refine AList.c 38 rfl rfl rfl (OpJ.fieldAddr rfl rfl fd25_1 rfl) ?_
      refine AList.c 39 rfl rfl rfl (OpJ.load rfl rfl ty3 rfl) ?_
      refine AList.c 40 rfl rfl rfl (OpJ.callP (rlacksB_ok l b _ (by omega) okl okb.1) rfl rfl rfl rfl rf50) ?_
      refine AList.c 35 rfl rfl rfl (OpJ.move rfl rfl) ?_
      refine AList.c 41 rfl rfl rfl (OpJ.extract rfl rfl rfl) ?_
      refine AList.c 42 rfl rfl rfl (OpJ.extract rfl rfl rfl) ?_
      refine AList.c 10 rfl rfl rfl (OpJ.assign rfl rfl) ?_
      refine AList.c 11 rfl rfl rfl (OpJ.assign rfl rfl) ?_
      refine AList.nil ?_
      refine AWp.seq ?_
      refine AWp.regionDrawA 14 (.cells ((cellsP (.agg [.int .i64 0, .int .i64 0])).map .p) 25) mixed (by kernel_rfl) (by decide) ?_
      refine AQuietA.cons 43 rfl rfl rfl (OpJ.move rfl rfl) (OpJ.move rfl rfl) ?_
      refine AQuietA.cons 44 rfl rfl rfl (OpJ.fieldAddr rfl rfl fd25_0 rfl) (OpJ.fieldAddr rfl rfl fd25_0 rfl) ?_
      refine AQuietA.cons 45 rfl rfl rfl (OpJ.load rfl rfl ty3 rfl) (OpJ.load rfl rfl ty3 rfl) ?_
      refine AQuietA.cons 46 rfl rfl rfl (OpJ.sub_ rfl rfl rfl (i64ok ?_)) (OpJ.sub_ rfl rfl rfl (i64ok ?_)) ?_
      · omega
      · omega
      refine AQuietA.cons 47 rfl rfl rfl (OpJ.callP (rUp_ok _ _ ?_ ?_) rfl rfl rfl rfl rf51) (OpJ.callP (rUp_ok _ _ ?_ ?_) rfl rfl rfl rfl rf51) ?_
      · omega
      · omega
      · omega
      · omega
      refine AQuietA.cons 48 rfl rfl rfl (OpJ.max2 rfl rfl rfl) (OpJ.max2 rfl rfl rfl) ?_
      refine AQuietA.cons 49 rfl rfl rfl (OpJ.move rfl rfl) (OpJ.move rfl rfl) ?_
      refine AQuietA.cons 50 rfl rfl rfl (OpJ.fieldAddr rfl rfl fd25_1 rfl) (OpJ.fieldAddr rfl rfl fd25_1 rfl) ?_
      refine AQuietA.cons 51 rfl rfl rfl (OpJ.load rfl rfl ty3 rfl) (OpJ.load rfl rfl ty3 rfl) ?_
      refine AQuietA.cons 52 rfl rfl rfl (OpJ.sub_ rfl rfl rfl (i64ok ?_)) (OpJ.sub_ rfl rfl rfl (i64ok ?_)) ?_
      · omega
      · omega
      refine AQuietA.cons 53 rfl rfl rfl (OpJ.callP (rDown_ok _ _ ?_ ?_) rfl rfl rfl rfl rf52) (OpJ.callP (rDown_ok _ _ ?_ ?_) rfl rfl rfl rfl rf52) ?_
      · omega
      · omega
      · omega
      · omega
      refine AQuietA.cons 54 rfl rfl rfl (OpJ.min2 rfl rfl rfl) (OpJ.min2 rfl rfl rfl) ?_
      refine AQuietA.cons 55 rfl rfl rfl (OpJ.build rfl bd25 rfl rfl) (OpJ.build rfl bd25 rfl rfl) ?_
      refine AQuietA.lay 12 rfl rfl rfl (OpJ.allocOwn rfl zr25 rfl) ?_
      refine AQuietA.nil ?_
      refine AList.c0 rfl rfl (OpJ.store rfl rfl rfl rfl rfl ty25 rfl rfl) ?_
      refine AList.nil ?_
      refine AWp.seq ?_
      refine AWp.seq ?_
      refine AWp.region ?_
      refine AList.c 56 rfl rfl rfl (OpJ.fieldAddr rfl rfl fd25_0 rfl) ?_
      refine AList.c 57 rfl rfl rfl (OpJ.load rfl rfl ty3 rfl) ?_
      refine AList.c 58 rfl rfl rfl (OpJ.fieldAddr rfl rfl fd25_1 rfl) ?_
      refine AList.c 59 rfl rfl rfl (OpJ.load rfl rfl ty3 rfl) ?_
      refine AList.c 60 rfl rfl rfl (OpJ.gtr rfl rfl rfl) ?_
      refine AList.nil ?_
      refine AWp.cond _ rfl (fun hc2 => ?_) (fun hc2 => ?_)
      · skip
        have h2 : waterHi l b w < waterLo l b w := of_decide_eq_true hc2
        refine AWp.seq ?_
        refine AWp.region ?_
        refine AList.c 61 rfl rfl rfl (OpJ.build rfl bd25 rfl rfl) ?_
        refine AList.c0 rfl rfl (OpJ.store rfl rfl rfl rfl rfl ty25 rfl rfl) ?_
        refine AList.c 7 rfl rfl rfl (OpJ.assign rfl rfl) ?_
        refine AList.nil ?_
        refine AWp.ret ?_
        refine Fin.manyE (xs := [.agg [.int .i64 0, .int .i64 0], .int .i64 4]) rfl (⟨_, _, rfl, ⟨_, _, _, rfl, ty25, rfl⟩, ⟨_, _, rfl, rfl, rfl⟩⟩) rfl ?_
        simp [waterR, hv, hw, h2, noSpan]
      · skip
        have h2 : ¬ waterHi l b w < waterLo l b w := of_decide_eq_false hc2
        refine AWp.skip ?_
        refine AWp.seq ?_
        refine AWp.region ?_
        refine AList.c 62 rfl rfl rfl (OpJ.load rfl rfl ty25 rfl) ?_
        refine AList.c0 rfl rfl (OpJ.store rfl rfl rfl rfl rfl ty25 rfl rfl) ?_
        refine AList.c 7 rfl rfl rfl (OpJ.assign rfl rfl) ?_
        refine AList.nil ?_
        refine AWp.ret ?_
        refine Fin.manyE (xs := [.agg [.int .i64 (waterLo l b w), .int .i64 (waterHi l b w)], .int .i64 0]) rfl (⟨_, _, rfl, ⟨_, _, _, rfl, ty25, rfl⟩, ⟨_, _, rfl, rfl, rfl⟩⟩) rfl ?_
        simp [waterR, hv, hw, h2]
theorem sumB_ok (l : List Sk) (b : List Tk) (hl : okL l) (hb : okB b) (ht : okT l.length b) (fn : Nat) (kd : Int) (hf : ∀ (s : Sk) (j : Nat), okSk s → FPure Try.prog (.func (.func fn) [] []) [stateV s j] (.int .i64 (stF (ofF kd) s j))) :
    Pure Try.prog 38 [mapP (PV.int .i64) gpS (buildM l b b.length), .func (.func fn) [] []] (.agg [.int .i64 (isum (partLo kd l b) l.length), .int .i64 (isum (partHi kd l b) l.length)]) := by
  have hm := buildM_ok hl hb ht
  have h := sum_ok (buildM l b b.length) (.func fn) [] [] (stF (ofF kd)) hm.1 hm.2.1 (fun m hmm j _ => by have := ofB (k := kd) ((hm.2.2 m hmm).state j); unfold stF; omega) (fun m hmm j _ => hf m.2.1 j (hm.2.2 m hmm))
  rw [sum_lo ht, sum_hi ht, sLo_part hl hb, sHi_part hl hb] at h
  exact h
theorem kind0 (s : Sk) (j : Nat) (h : okSk s) : FPure Try.prog (.func (.func 33) [] []) [stateV s j] (.int .i64 (stF (ofF 0) s j)) := ⟨_, [stateV s j], rfl, rf33, drops_ok _ _ _ (h.state j)⟩
theorem kind1 (s : Sk) (j : Nat) (h : okSk s) : FPure Try.prog (.func (.func 34) [] []) [stateV s j] (.int .i64 (stF (ofF 1) s j)) := ⟨_, [stateV s j], rfl, rf34, coal_ok _ _ _ (h.state j)⟩
theorem kind2 (s : Sk) (j : Nat) (h : okSk s) : FPure Try.prog (.func (.func 35) [] []) [stateV s j] (.int .i64 (stF (ofF 2) s j)) := ⟨_, [stateV s j], rfl, rf35, smoke_ok _ _ _ (h.state j)⟩
theorem kind3 (s : Sk) (j : Nat) (h : okSk s) : FPure Try.prog (.func (.func 36) [] []) [stateV s j] (.int .i64 (stF (ofF 3) s j)) := ⟨_, [stateV s j], rfl, rf36, baked_ok _ _ _ (h.state j)⟩
theorem kind4 (s : Sk) (j : Nat) (h : okSk s) : FPure Try.prog (.func (.func 37) [] []) [stateV s j] (.int .i64 (stF (ofF 4) s j)) := ⟨_, [stateV s j], rfl, rf37, lead_ok _ _ _ (h.state j)⟩
theorem weigh_ok (l : List Sk) (b : List Tk) (hl : l.length ≤ bigN) (hb : b.length ≤ bigN) : Pure Try.prog 11 [sacksV l, takesV b] (.tuple (rWeighR l b)) := by
  refine Pure.start (N := 53) Try.func11 rfl rfl (Nat.le_of_ble_eq_true rfl) ?_
  refine AWp.seq ?_
  refine AWp.region ?_
  refine AList.c 4 rfl rfl rfl (OpJ.allocOwn rfl zr29 rfl) ?_
  refine AList.c 5 rfl rfl rfl (OpJ.assign rfl rfl) ?_
  refine AList.nil ?_
  refine AWp.seq ?_
  refine AWp.seq ?_
  refine AWp.region ?_
  refine AList.c 11 rfl rfl rfl (OpJ.move rfl rfl) ?_
  refine AList.c 12 rfl rfl rfl (OpJ.callP (areSacks_ok _ ?_) rfl rfl rfl rfl rf30) ?_
  · assumption
  refine AList.c 13 rfl rfl rfl (OpJ.not_ rfl rfl) ?_
  refine AList.c 14 rfl rfl rfl (OpJ.move rfl rfl) ?_
  refine AList.g 15 14 rfl rfl rfl rfl rfl rfl rfl [(0, _)] (fun h => And.intro (.inl rfl) (trivial)) (fun h => (OpJ.move rfl rfl)) ?_
  refine AList.g 16 14 rfl rfl rfl rfl rfl rfl rfl [(1, _)] (fun h => And.intro (.inl rfl) (trivial)) (fun h => (OpJ.move rfl rfl)) ?_
  refine AList.g 17 14 rfl rfl rfl rfl rfl rfl rfl [(15, _), (16, _)] (fun h => And.intro (.inr ⟨_, rfl, h⟩) (And.intro (.inr ⟨_, rfl, h⟩) (trivial))) (fun h => (OpJ.callP (isBatch_ok _ _ ?_ ?_) rfl rfl rfl rfl rf31)) ?_
  · assumption
  · assumption
  refine AList.g 18 14 rfl rfl rfl rfl rfl rfl rfl [(17, _)] (fun h => And.intro (.inr ⟨_, rfl, h⟩) (trivial)) (fun h => (OpJ.not_ rfl rfl)) ?_
  refine AList.c 19 rfl rfl rfl (OpJ.or_ rfl rfl rfl ?_) ?_
  · first | (intro h; rw [h]; rfl) | (intro h; simp_all)
  refine AList.nil ?_
  refine AWp.cond _ rfl (fun hc0 => ?_) (fun hc0 => ?_)
  · skip
    refine AWp.seq ?_
    refine AWp.region ?_
    refine AList.c 20 rfl rfl rfl (OpJ.load rfl rfl ty29 rfl) ?_
    refine AList.c0 rfl rfl (OpJ.store rfl rfl rfl rfl rfl ty29 rfl rfl) ?_
    refine AList.c 5 rfl rfl rfl (OpJ.assign rfl rfl) ?_
    refine AList.nil ?_
    refine AWp.ret ?_
    have hv : validB l b = false := by unfold validB; simp at hc0; rcases hc0 with h | h <;> simp [h]
    refine Fin.manyE (xs := [.agg (List.replicate 10 (.int .i64 0)), .int .i64 1]) rfl (⟨_, _, rfl, ⟨_, _, _, rfl, ty29, rfl⟩, ⟨_, _, rfl, rfl, rfl⟩⟩) rfl ?_
    simp [rWeighR, hv]
  · skip
    have hv : validB l b = true := by unfold validB; simp at hc0; simp [hc0]
    have okl : okL l := okL_of (by unfold validB at hv; simp at hv; exact hv.1)
    have okb := okB_of (n := l.length) (b := b) (by unfold validB at hv; simp at hv; exact hv.2)
    refine AWp.skip ?_
    refine AWp.seq ?_
    refine AWp.region ?_
    refine AList.c 21 rfl rfl rfl (OpJ.move rfl rfl) ?_
    refine AList.c 22 rfl rfl rfl (OpJ.move rfl rfl) ?_
    refine AList.c 23 rfl rfl rfl (OpJ.callP (newBatch_ok l b hl okb.1 okb.2) rfl rfl rfl rfl rf32) ?_
    refine AList.c 6 rfl rfl rfl (OpJ.assign rfl rfl) ?_
    refine AList.nil ?_
    refine AWp.seq ?_
    refine AWp.region ?_
    refine AList.c 7 rfl rfl rfl (OpJ.allocOwn rfl zr67 rfl) ?_
    refine AList.nil ?_
    refine AWp.seq ?_
    refine AWp.seq ?_
    refine AWp.region ?_
    refine AList.c 24 rfl rfl rfl (OpJ.build rfl bd72 rfl rfl) ?_
    refine AList.c 25 rfl rfl rfl (OpJ.move rfl rfl) ?_
    refine AList.nil ?_
    refine AWp.block ?_
    refine AWp.unroll 6 ?_
    refine ARounds.next ?_
    have ps := partS okl okb.1 0
    refine AWp.seq ?_
    refine AWp.region ?_
    refine AList.c 26 rfl rfl rfl (OpJ.lss rfl rfl rfl) ?_
    refine AList.nil ?_
    refine AWp.seq ?_
    refine AWp.condT rfl ?_
    refine AWp.skip ?_
    refine AWp.seq ?_
    refine AWp.block ?_
    refine AWp.seq ?_
    refine AWp.region ?_
    refine AList.c 27 rfl rfl rfl (OpJ.move rfl rfl) ?_
    refine AList.c 28 rfl rfl rfl (OpJ.indexV rfl rfl rfl av72 (by omega) (by omega) rfl) ?_
    refine AList.c 8 rfl rfl rfl (OpJ.assign rfl rfl) ?_
    refine AList.c 9 rfl rfl rfl (OpJ.assign rfl rfl) ?_
    refine AList.nil ?_
    refine AWp.seq ?_
    refine AWp.region ?_
    refine AList.c 29 rfl rfl rfl (OpJ.move rfl rfl) ?_
    refine AList.c 30 rfl rfl rfl (OpJ.move rfl rfl) ?_
    refine AList.c 31 rfl rfl rfl (OpJ.callP (sumB_ok l b okl okb.1 okb.2 33 0 kind0) rfl rfl rfl rfl rf38) ?_
    refine AList.c 10 rfl rfl rfl (OpJ.allocOwn rfl zr25 rfl) ?_
    refine AList.c0 rfl rfl (OpJ.store rfl rfl rfl rfl rfl ty25 rfl rfl) ?_
    refine AList.nil ?_
    refine AWp.regionDraw 9 mixed (by kernel_rfl) (by decide) ?_
    refine AQuiet.cons 32 rfl rfl rfl (OpJ.move rfl rfl) ?_
    refine AQuiet.cons 33 rfl rfl rfl (OpJ.fieldAddr rfl rfl fd25_0 rfl) ?_
    refine AQuiet.cons 34 rfl rfl rfl (OpJ.load rfl rfl ty3 rfl) ?_
    refine AQuiet.cons 35 rfl rfl rfl (OpJ.callP (down_ok _ _ ?_ ?_) rfl rfl rfl rfl rf39) ?_
    · omega
    · omega
    refine AQuiet.cons 36 rfl rfl rfl (OpJ.fieldAddr rfl rfl fd25_1 rfl) ?_
    refine AQuiet.cons 37 rfl rfl rfl (OpJ.load rfl rfl ty3 rfl) ?_
    refine AQuiet.cons 38 rfl rfl rfl (OpJ.callP (up_ok _ _ ?_ ?_) rfl rfl rfl rfl rf40) ?_
    · omega
    · omega
    refine AQuiet.cons 39 rfl rfl rfl (OpJ.build rfl bd25 rfl rfl) ?_
    refine AQuiet.cons 40 rfl rfl rfl (OpJ.indexArr rfl rfl rfl ar67 el67 (by omega) (by omega) rfl) ?_
    refine AQuiet.nil ?_
    refine AList.c0 rfl rfl (OpJ.store rfl rfl rfl rfl rfl ty25 rfl rfl) ?_
    refine AList.nil ?_
    refine AWp.region ?_
    refine AList.c 41 rfl rfl rfl (OpJ.add rfl rfl rfl (i64ok ?_)) ?_
    · decide
    refine AList.c 25 rfl rfl rfl (OpJ.move rfl rfl) ?_
    refine AList.nil ?_
    refine ARounds.next ?_
    refine AWp.norm [0, 1] [(25, .p (.int .i64 1)), (24, .p (.agg [.func (.func 33) [] [], .func (.func 34) [] [], .func (.func 35) [] [], .func (.func 36) [] [], .func (.func 37) [] []])), (6, .p (mapP (PV.int .i64) gpS (buildM l b b.length))), (7, .ptr 1 0), (4, .ptr 0 0)] [.cells [.p (.int .i64 0), .p (.int .i64 0), .p (.int .i64 0), .p (.int .i64 0), .p (.int .i64 0), .p (.int .i64 0), .p (.int .i64 0), .p (.int .i64 0), .p (.int .i64 0), .p (.int .i64 0)] 29, .cells [.p (.int .i64 (isum (partLo 0 l b) l.length / 1000000000)), .p (.int .i64 (0 - (0 - isum (partHi 0 l b) l.length) / 1000000000)), .p (.int .i64 0), .p (.int .i64 0), .p (.int .i64 0), .p (.int .i64 0), .p (.int .i64 0), .p (.int .i64 0), .p (.int .i64 0), .p (.int .i64 0)] 67] rfl (by repeat (first | exact Sub.nil | refine Sub.cons rfl ?_)) rfl ?_
    have ps := partS okl okb.1 1
    refine AWp.seq ?_
    refine AWp.region ?_
    refine AList.c 26 rfl rfl rfl (OpJ.lss rfl rfl rfl) ?_
    refine AList.nil ?_
    refine AWp.seq ?_
    refine AWp.condT rfl ?_
    refine AWp.skip ?_
    refine AWp.seq ?_
    refine AWp.block ?_
    refine AWp.seq ?_
    refine AWp.region ?_
    refine AList.c 27 rfl rfl rfl (OpJ.move rfl rfl) ?_
    refine AList.c 28 rfl rfl rfl (OpJ.indexV rfl rfl rfl av72 (by omega) (by omega) rfl) ?_
    refine AList.c 8 rfl rfl rfl (OpJ.assign rfl rfl) ?_
    refine AList.c 9 rfl rfl rfl (OpJ.assign rfl rfl) ?_
    refine AList.nil ?_
    refine AWp.seq ?_
    refine AWp.region ?_
    refine AList.c 29 rfl rfl rfl (OpJ.move rfl rfl) ?_
    refine AList.c 30 rfl rfl rfl (OpJ.move rfl rfl) ?_
    refine AList.c 31 rfl rfl rfl (OpJ.callP (sumB_ok l b okl okb.1 okb.2 34 1 kind1) rfl rfl rfl rfl rf38) ?_
    refine AList.c 10 rfl rfl rfl (OpJ.allocOwn rfl zr25 rfl) ?_
    refine AList.c0 rfl rfl (OpJ.store rfl rfl rfl rfl rfl ty25 rfl rfl) ?_
    refine AList.nil ?_
    refine AWp.regionDraw 9 mixed (by kernel_rfl) (by decide) ?_
    refine AQuiet.cons 32 rfl rfl rfl (OpJ.move rfl rfl) ?_
    refine AQuiet.cons 33 rfl rfl rfl (OpJ.fieldAddr rfl rfl fd25_0 rfl) ?_
    refine AQuiet.cons 34 rfl rfl rfl (OpJ.load rfl rfl ty3 rfl) ?_
    refine AQuiet.cons 35 rfl rfl rfl (OpJ.callP (down_ok _ _ ?_ ?_) rfl rfl rfl rfl rf39) ?_
    · omega
    · omega
    refine AQuiet.cons 36 rfl rfl rfl (OpJ.fieldAddr rfl rfl fd25_1 rfl) ?_
    refine AQuiet.cons 37 rfl rfl rfl (OpJ.load rfl rfl ty3 rfl) ?_
    refine AQuiet.cons 38 rfl rfl rfl (OpJ.callP (up_ok _ _ ?_ ?_) rfl rfl rfl rfl rf40) ?_
    · omega
    · omega
    refine AQuiet.cons 39 rfl rfl rfl (OpJ.build rfl bd25 rfl rfl) ?_
    refine AQuiet.cons 40 rfl rfl rfl (OpJ.indexArr rfl rfl rfl ar67 el67 (by omega) (by omega) rfl) ?_
    refine AQuiet.nil ?_
    refine AList.c0 rfl rfl (OpJ.store rfl rfl rfl rfl rfl ty25 rfl rfl) ?_
    refine AList.nil ?_
    refine AWp.region ?_
    refine AList.c 41 rfl rfl rfl (OpJ.add rfl rfl rfl (i64ok ?_)) ?_
    · decide
    refine AList.c 25 rfl rfl rfl (OpJ.move rfl rfl) ?_
    refine AList.nil ?_
    refine ARounds.next ?_
    refine AWp.norm [0, 1] [(25, .p (.int .i64 2)), (24, .p (.agg [.func (.func 33) [] [], .func (.func 34) [] [], .func (.func 35) [] [], .func (.func 36) [] [], .func (.func 37) [] []])), (6, .p (mapP (PV.int .i64) gpS (buildM l b b.length))), (7, .ptr 1 0), (4, .ptr 0 0)] [.cells [.p (.int .i64 0), .p (.int .i64 0), .p (.int .i64 0), .p (.int .i64 0), .p (.int .i64 0), .p (.int .i64 0), .p (.int .i64 0), .p (.int .i64 0), .p (.int .i64 0), .p (.int .i64 0)] 29, .cells [.p (.int .i64 (isum (partLo 0 l b) l.length / 1000000000)), .p (.int .i64 (0 - (0 - isum (partHi 0 l b) l.length) / 1000000000)), .p (.int .i64 (isum (partLo 1 l b) l.length / 1000000000)), .p (.int .i64 (0 - (0 - isum (partHi 1 l b) l.length) / 1000000000)), .p (.int .i64 0), .p (.int .i64 0), .p (.int .i64 0), .p (.int .i64 0), .p (.int .i64 0), .p (.int .i64 0)] 67] rfl (by repeat (first | exact Sub.nil | refine Sub.cons rfl ?_)) rfl ?_
    have ps := partS okl okb.1 2
    refine AWp.seq ?_
    refine AWp.region ?_
    refine AList.c 26 rfl rfl rfl (OpJ.lss rfl rfl rfl) ?_
    refine AList.nil ?_
    refine AWp.seq ?_
    refine AWp.condT rfl ?_
    refine AWp.skip ?_
    refine AWp.seq ?_
    refine AWp.block ?_
    refine AWp.seq ?_
    refine AWp.region ?_
    refine AList.c 27 rfl rfl rfl (OpJ.move rfl rfl) ?_
    refine AList.c 28 rfl rfl rfl (OpJ.indexV rfl rfl rfl av72 (by omega) (by omega) rfl) ?_
    refine AList.c 8 rfl rfl rfl (OpJ.assign rfl rfl) ?_
    refine AList.c 9 rfl rfl rfl (OpJ.assign rfl rfl) ?_
    refine AList.nil ?_
    refine AWp.seq ?_
    refine AWp.region ?_
    refine AList.c 29 rfl rfl rfl (OpJ.move rfl rfl) ?_
    refine AList.c 30 rfl rfl rfl (OpJ.move rfl rfl) ?_
    refine AList.c 31 rfl rfl rfl (OpJ.callP (sumB_ok l b okl okb.1 okb.2 35 2 kind2) rfl rfl rfl rfl rf38) ?_
    refine AList.c 10 rfl rfl rfl (OpJ.allocOwn rfl zr25 rfl) ?_
    refine AList.c0 rfl rfl (OpJ.store rfl rfl rfl rfl rfl ty25 rfl rfl) ?_
    refine AList.nil ?_
    refine AWp.regionDraw 9 mixed (by kernel_rfl) (by decide) ?_
    refine AQuiet.cons 32 rfl rfl rfl (OpJ.move rfl rfl) ?_
    refine AQuiet.cons 33 rfl rfl rfl (OpJ.fieldAddr rfl rfl fd25_0 rfl) ?_
    refine AQuiet.cons 34 rfl rfl rfl (OpJ.load rfl rfl ty3 rfl) ?_
    refine AQuiet.cons 35 rfl rfl rfl (OpJ.callP (down_ok _ _ ?_ ?_) rfl rfl rfl rfl rf39) ?_
    · omega
    · omega
    refine AQuiet.cons 36 rfl rfl rfl (OpJ.fieldAddr rfl rfl fd25_1 rfl) ?_
    refine AQuiet.cons 37 rfl rfl rfl (OpJ.load rfl rfl ty3 rfl) ?_
    refine AQuiet.cons 38 rfl rfl rfl (OpJ.callP (up_ok _ _ ?_ ?_) rfl rfl rfl rfl rf40) ?_
    · omega
    · omega
    refine AQuiet.cons 39 rfl rfl rfl (OpJ.build rfl bd25 rfl rfl) ?_
    refine AQuiet.cons 40 rfl rfl rfl (OpJ.indexArr rfl rfl rfl ar67 el67 (by omega) (by omega) rfl) ?_
    refine AQuiet.nil ?_
    refine AList.c0 rfl rfl (OpJ.store rfl rfl rfl rfl rfl ty25 rfl rfl) ?_
    refine AList.nil ?_
    refine AWp.region ?_
    refine AList.c 41 rfl rfl rfl (OpJ.add rfl rfl rfl (i64ok ?_)) ?_
    · decide
    refine AList.c 25 rfl rfl rfl (OpJ.move rfl rfl) ?_
    refine AList.nil ?_
    refine ARounds.next ?_
    refine AWp.norm [0, 1] [(25, .p (.int .i64 3)), (24, .p (.agg [.func (.func 33) [] [], .func (.func 34) [] [], .func (.func 35) [] [], .func (.func 36) [] [], .func (.func 37) [] []])), (6, .p (mapP (PV.int .i64) gpS (buildM l b b.length))), (7, .ptr 1 0), (4, .ptr 0 0)] [.cells [.p (.int .i64 0), .p (.int .i64 0), .p (.int .i64 0), .p (.int .i64 0), .p (.int .i64 0), .p (.int .i64 0), .p (.int .i64 0), .p (.int .i64 0), .p (.int .i64 0), .p (.int .i64 0)] 29, .cells [.p (.int .i64 (isum (partLo 0 l b) l.length / 1000000000)), .p (.int .i64 (0 - (0 - isum (partHi 0 l b) l.length) / 1000000000)), .p (.int .i64 (isum (partLo 1 l b) l.length / 1000000000)), .p (.int .i64 (0 - (0 - isum (partHi 1 l b) l.length) / 1000000000)), .p (.int .i64 (isum (partLo 2 l b) l.length / 1000000000)), .p (.int .i64 (0 - (0 - isum (partHi 2 l b) l.length) / 1000000000)), .p (.int .i64 0), .p (.int .i64 0), .p (.int .i64 0), .p (.int .i64 0)] 67] rfl (by repeat (first | exact Sub.nil | refine Sub.cons rfl ?_)) rfl ?_
    have ps := partS okl okb.1 3
    refine AWp.seq ?_
    refine AWp.region ?_
    refine AList.c 26 rfl rfl rfl (OpJ.lss rfl rfl rfl) ?_
    refine AList.nil ?_
    refine AWp.seq ?_
    refine AWp.condT rfl ?_
    refine AWp.skip ?_
    refine AWp.seq ?_
    refine AWp.block ?_
    refine AWp.seq ?_
    refine AWp.region ?_
    refine AList.c 27 rfl rfl rfl (OpJ.move rfl rfl) ?_
    refine AList.c 28 rfl rfl rfl (OpJ.indexV rfl rfl rfl av72 (by omega) (by omega) rfl) ?_
    refine AList.c 8 rfl rfl rfl (OpJ.assign rfl rfl) ?_
    refine AList.c 9 rfl rfl rfl (OpJ.assign rfl rfl) ?_
    refine AList.nil ?_
    refine AWp.seq ?_
    refine AWp.region ?_
    refine AList.c 29 rfl rfl rfl (OpJ.move rfl rfl) ?_
    refine AList.c 30 rfl rfl rfl (OpJ.move rfl rfl) ?_
    refine AList.c 31 rfl rfl rfl (OpJ.callP (sumB_ok l b okl okb.1 okb.2 36 3 kind3) rfl rfl rfl rfl rf38) ?_
    refine AList.c 10 rfl rfl rfl (OpJ.allocOwn rfl zr25 rfl) ?_
    refine AList.c0 rfl rfl (OpJ.store rfl rfl rfl rfl rfl ty25 rfl rfl) ?_
    refine AList.nil ?_
    refine AWp.regionDraw 9 mixed (by kernel_rfl) (by decide) ?_
    refine AQuiet.cons 32 rfl rfl rfl (OpJ.move rfl rfl) ?_
    refine AQuiet.cons 33 rfl rfl rfl (OpJ.fieldAddr rfl rfl fd25_0 rfl) ?_
    refine AQuiet.cons 34 rfl rfl rfl (OpJ.load rfl rfl ty3 rfl) ?_
    refine AQuiet.cons 35 rfl rfl rfl (OpJ.callP (down_ok _ _ ?_ ?_) rfl rfl rfl rfl rf39) ?_
    · omega
    · omega
    refine AQuiet.cons 36 rfl rfl rfl (OpJ.fieldAddr rfl rfl fd25_1 rfl) ?_
    refine AQuiet.cons 37 rfl rfl rfl (OpJ.load rfl rfl ty3 rfl) ?_
    refine AQuiet.cons 38 rfl rfl rfl (OpJ.callP (up_ok _ _ ?_ ?_) rfl rfl rfl rfl rf40) ?_
    · omega
    · omega
    refine AQuiet.cons 39 rfl rfl rfl (OpJ.build rfl bd25 rfl rfl) ?_
    refine AQuiet.cons 40 rfl rfl rfl (OpJ.indexArr rfl rfl rfl ar67 el67 (by omega) (by omega) rfl) ?_
    refine AQuiet.nil ?_
    refine AList.c0 rfl rfl (OpJ.store rfl rfl rfl rfl rfl ty25 rfl rfl) ?_
    refine AList.nil ?_
    refine AWp.region ?_
    refine AList.c 41 rfl rfl rfl (OpJ.add rfl rfl rfl (i64ok ?_)) ?_
    · decide
    refine AList.c 25 rfl rfl rfl (OpJ.move rfl rfl) ?_
    refine AList.nil ?_
    refine ARounds.next ?_
    refine AWp.norm [0, 1] [(25, .p (.int .i64 4)), (24, .p (.agg [.func (.func 33) [] [], .func (.func 34) [] [], .func (.func 35) [] [], .func (.func 36) [] [], .func (.func 37) [] []])), (6, .p (mapP (PV.int .i64) gpS (buildM l b b.length))), (7, .ptr 1 0), (4, .ptr 0 0)] [.cells [.p (.int .i64 0), .p (.int .i64 0), .p (.int .i64 0), .p (.int .i64 0), .p (.int .i64 0), .p (.int .i64 0), .p (.int .i64 0), .p (.int .i64 0), .p (.int .i64 0), .p (.int .i64 0)] 29, .cells [.p (.int .i64 (isum (partLo 0 l b) l.length / 1000000000)), .p (.int .i64 (0 - (0 - isum (partHi 0 l b) l.length) / 1000000000)), .p (.int .i64 (isum (partLo 1 l b) l.length / 1000000000)), .p (.int .i64 (0 - (0 - isum (partHi 1 l b) l.length) / 1000000000)), .p (.int .i64 (isum (partLo 2 l b) l.length / 1000000000)), .p (.int .i64 (0 - (0 - isum (partHi 2 l b) l.length) / 1000000000)), .p (.int .i64 (isum (partLo 3 l b) l.length / 1000000000)), .p (.int .i64 (0 - (0 - isum (partHi 3 l b) l.length) / 1000000000)), .p (.int .i64 0), .p (.int .i64 0)] 67] rfl (by repeat (first | exact Sub.nil | refine Sub.cons rfl ?_)) rfl ?_
    have ps := partS okl okb.1 4
    refine AWp.seq ?_
    refine AWp.region ?_
    refine AList.c 26 rfl rfl rfl (OpJ.lss rfl rfl rfl) ?_
    refine AList.nil ?_
    refine AWp.seq ?_
    refine AWp.condT rfl ?_
    refine AWp.skip ?_
    refine AWp.seq ?_
    refine AWp.block ?_
    refine AWp.seq ?_
    refine AWp.region ?_
    refine AList.c 27 rfl rfl rfl (OpJ.move rfl rfl) ?_
    refine AList.c 28 rfl rfl rfl (OpJ.indexV rfl rfl rfl av72 (by omega) (by omega) rfl) ?_
    refine AList.c 8 rfl rfl rfl (OpJ.assign rfl rfl) ?_
    refine AList.c 9 rfl rfl rfl (OpJ.assign rfl rfl) ?_
    refine AList.nil ?_
    refine AWp.seq ?_
    refine AWp.region ?_
    refine AList.c 29 rfl rfl rfl (OpJ.move rfl rfl) ?_
    refine AList.c 30 rfl rfl rfl (OpJ.move rfl rfl) ?_
    refine AList.c 31 rfl rfl rfl (OpJ.callP (sumB_ok l b okl okb.1 okb.2 37 4 kind4) rfl rfl rfl rfl rf38) ?_
    refine AList.c 10 rfl rfl rfl (OpJ.allocOwn rfl zr25 rfl) ?_
    refine AList.c0 rfl rfl (OpJ.store rfl rfl rfl rfl rfl ty25 rfl rfl) ?_
    refine AList.nil ?_
    refine AWp.regionDraw 9 mixed (by kernel_rfl) (by decide) ?_
    refine AQuiet.cons 32 rfl rfl rfl (OpJ.move rfl rfl) ?_
    refine AQuiet.cons 33 rfl rfl rfl (OpJ.fieldAddr rfl rfl fd25_0 rfl) ?_
    refine AQuiet.cons 34 rfl rfl rfl (OpJ.load rfl rfl ty3 rfl) ?_
    refine AQuiet.cons 35 rfl rfl rfl (OpJ.callP (down_ok _ _ ?_ ?_) rfl rfl rfl rfl rf39) ?_
    · omega
    · omega
    refine AQuiet.cons 36 rfl rfl rfl (OpJ.fieldAddr rfl rfl fd25_1 rfl) ?_
    refine AQuiet.cons 37 rfl rfl rfl (OpJ.load rfl rfl ty3 rfl) ?_
    refine AQuiet.cons 38 rfl rfl rfl (OpJ.callP (up_ok _ _ ?_ ?_) rfl rfl rfl rfl rf40) ?_
    · omega
    · omega
    refine AQuiet.cons 39 rfl rfl rfl (OpJ.build rfl bd25 rfl rfl) ?_
    refine AQuiet.cons 40 rfl rfl rfl (OpJ.indexArr rfl rfl rfl ar67 el67 (by omega) (by omega) rfl) ?_
    refine AQuiet.nil ?_
    refine AList.c0 rfl rfl (OpJ.store rfl rfl rfl rfl rfl ty25 rfl rfl) ?_
    refine AList.nil ?_
    refine AWp.region ?_
    refine AList.c 41 rfl rfl rfl (OpJ.add rfl rfl rfl (i64ok ?_)) ?_
    · decide
    refine AList.c 25 rfl rfl rfl (OpJ.move rfl rfl) ?_
    refine AList.nil ?_
    refine ARounds.next ?_
    refine AWp.norm [0, 1] [(25, .p (.int .i64 5)), (24, .p (.agg [.func (.func 33) [] [], .func (.func 34) [] [], .func (.func 35) [] [], .func (.func 36) [] [], .func (.func 37) [] []])), (6, .p (mapP (PV.int .i64) gpS (buildM l b b.length))), (7, .ptr 1 0), (4, .ptr 0 0)] [.cells [.p (.int .i64 0), .p (.int .i64 0), .p (.int .i64 0), .p (.int .i64 0), .p (.int .i64 0), .p (.int .i64 0), .p (.int .i64 0), .p (.int .i64 0), .p (.int .i64 0), .p (.int .i64 0)] 29, .cells [.p (.int .i64 (isum (partLo 0 l b) l.length / 1000000000)), .p (.int .i64 (0 - (0 - isum (partHi 0 l b) l.length) / 1000000000)), .p (.int .i64 (isum (partLo 1 l b) l.length / 1000000000)), .p (.int .i64 (0 - (0 - isum (partHi 1 l b) l.length) / 1000000000)), .p (.int .i64 (isum (partLo 2 l b) l.length / 1000000000)), .p (.int .i64 (0 - (0 - isum (partHi 2 l b) l.length) / 1000000000)), .p (.int .i64 (isum (partLo 3 l b) l.length / 1000000000)), .p (.int .i64 (0 - (0 - isum (partHi 3 l b) l.length) / 1000000000)), .p (.int .i64 (isum (partLo 4 l b) l.length / 1000000000)), .p (.int .i64 (0 - (0 - isum (partHi 4 l b) l.length) / 1000000000))] 67] rfl (by repeat (first | exact Sub.nil | refine Sub.cons rfl ?_)) rfl ?_
    refine AWp.seq ?_
    refine AWp.region ?_
    refine AList.c 26 rfl rfl rfl (OpJ.lss rfl rfl rfl) ?_
    refine AList.nil ?_
    refine AWp.seq ?_
    refine AWp.condF rfl ?_
    refine AWp.exit ?_
    refine AWp.seq ?_
    refine AWp.region ?_
    refine AList.c 42 rfl rfl rfl (OpJ.indexArr rfl rfl rfl ar67 el67 (by omega) (by omega) rfl) ?_
    refine AList.c 43 rfl rfl rfl (OpJ.load rfl rfl ty25 rfl) ?_
    refine AList.c 44 rfl rfl rfl (OpJ.indexArr rfl rfl rfl ar67 el67 (by omega) (by omega) rfl) ?_
    refine AList.c 45 rfl rfl rfl (OpJ.load rfl rfl ty25 rfl) ?_
    refine AList.c 46 rfl rfl rfl (OpJ.indexArr rfl rfl rfl ar67 el67 (by omega) (by omega) rfl) ?_
    refine AList.c 47 rfl rfl rfl (OpJ.load rfl rfl ty25 rfl) ?_
    refine AList.c 48 rfl rfl rfl (OpJ.indexArr rfl rfl rfl ar67 el67 (by omega) (by omega) rfl) ?_
    refine AList.c 49 rfl rfl rfl (OpJ.load rfl rfl ty25 rfl) ?_
    refine AList.c 50 rfl rfl rfl (OpJ.indexArr rfl rfl rfl ar67 el67 (by omega) (by omega) rfl) ?_
    refine AList.c 51 rfl rfl rfl (OpJ.load rfl rfl ty25 rfl) ?_
    refine AList.c 52 rfl rfl rfl (OpJ.build rfl bd29 rfl rfl) ?_
    refine AList.c0 rfl rfl (OpJ.store rfl rfl rfl rfl rfl ty29 rfl rfl) ?_
    refine AList.c 5 rfl rfl rfl (OpJ.assign rfl rfl) ?_
    refine AList.nil ?_
    refine AWp.ret ?_
    refine Fin.manyE (xs := [.agg (partV l b 0 ++ partV l b 1 ++ partV l b 2 ++ partV l b 3 ++ partV l b 4), .int .i64 0]) rfl (⟨_, _, rfl, ⟨_, _, _, rfl, ty29, rfl⟩, ⟨_, _, rfl, rfl, rfl⟩⟩) rfl ?_
    simp [rWeighR, hv]
end Go.Proofs.Ytmcejcidbekpkaa
