/-
  The document: kinds, corners.
-/
import Derived.Test.YtmcejcidbekpkaaSkFacts
import Derived.Test.YtmcejcidbekpkaaSkD
import Derived.Test.YtmcejcidbekpkaaSk1
set_option linter.unusedVariables false
set_option maxRecDepth 100000
set_option maxHeartbeats 4000000
set_option linter.unusedSimpArgs false
namespace Go.Proofs.Ytmcejcidbekpkaa
open Go.AF
theorem rOf3_ok (k w c l : Int) (hk : k = 0 ∨ k = 1 ∨ k = 2 ∨ k = 3) (hs : okSt w c l) : Pure Try.prog 62 [.int .i64 k, .int .i64 w, .int .i64 c, .int .i64 l] (.int .i64 (ofF k w c l)) := by
  obtain ⟨hw, hc, hl⟩ := id hs
  have b1 := coalB hs
  have b2 := ashB hs
  have b3 := smokeB hs
  have b4 := bakedB hs
  unfold smokeF at b3
  unfold bakedF at b4
  refine Pure.start (N := 50) Try.func62 rfl rfl (Nat.le_of_ble_eq_true rfl) ?_
  refine AWp.seq ?_
  refine AWp.region ?_
  refine AList.c 8 rfl rfl rfl (OpJ.assign rfl rfl) ?_
  refine AList.nil ?_
  refine AWp.seq ?_
  refine AWp.seq ?_
  refine AWp.region ?_
  refine AList.c 9 rfl rfl rfl (OpJ.move rfl rfl) ?_
  refine AList.nil ?_
  refine AWp.block ?_
  refine AWp.seq ?_
  refine AWp.region ?_
  refine AList.c 11 rfl rfl rfl (OpJ.eql rfl rfl rfl) ?_
  refine AList.c 10 rfl rfl rfl (OpJ.assign rfl rfl) ?_
  refine AList.nil ?_
  refine AWp.cond _ rfl (fun hc0 => ?_) (fun hc0 => ?_)
  · skip
    refine AWp.seq ?_
    refine AWp.region ?_
    refine AList.c 12 rfl rfl rfl (OpJ.move rfl rfl) ?_
    refine AList.c 13 rfl rfl rfl (OpJ.mul rfl rfl rfl (i64ok ?_)) ?_
    · omega
    refine AList.c 14 rfl rfl rfl (OpJ.mul rfl rfl rfl (i64ok ?_)) ?_
    · omega
    refine AList.c 8 rfl rfl rfl (OpJ.assign rfl rfl) ?_
    refine AList.nil ?_
    refine AWp.ret ?_
    refine Fin.oneE rfl rfl ?_
    simp_all [ofF, dropsF, coalF, smokeF, bakedF]
  · skip
    refine AWp.seq ?_
    refine AWp.region ?_
    refine AList.c 16 rfl rfl rfl (OpJ.eql rfl rfl rfl) ?_
    refine AList.c 15 rfl rfl rfl (OpJ.assign rfl rfl) ?_
    refine AList.nil ?_
    refine AWp.cond _ rfl (fun hc1 => ?_) (fun hc1 => ?_)
    · skip
      refine AWp.seq ?_
      refine AWp.region ?_
      refine AList.c 17 rfl rfl rfl (OpJ.move rfl rfl) ?_
      refine AList.c 18 rfl rfl rfl (OpJ.sub_ rfl rfl rfl (i64ok ?_)) ?_
      · omega
      refine AList.c 19 rfl rfl rfl (OpJ.move rfl rfl) ?_
      refine AList.c 20 rfl rfl rfl (OpJ.mul rfl rfl rfl (i64ok ?_)) ?_
      · omega
      refine AList.c 21 rfl rfl rfl (OpJ.mul rfl rfl rfl (i64ok ?_)) ?_
      · omega
      refine AList.c 8 rfl rfl rfl (OpJ.assign rfl rfl) ?_
      refine AList.nil ?_
      refine AWp.ret ?_
      refine Fin.oneE rfl rfl ?_
      simp_all [ofF, dropsF, coalF, smokeF, bakedF]
    · skip
      refine AWp.seq ?_
      refine AWp.region ?_
      refine AList.c 23 rfl rfl rfl (OpJ.eql rfl rfl rfl) ?_
      refine AList.c 22 rfl rfl rfl (OpJ.assign rfl rfl) ?_
      refine AList.nil ?_
      refine AWp.cond _ rfl (fun hc2 => ?_) (fun hc2 => ?_)
      · skip
        refine AWp.seq ?_
        refine AWp.region ?_
        refine AList.c 24 rfl rfl rfl (OpJ.move rfl rfl) ?_
        refine AList.c 25 rfl rfl rfl (OpJ.sub_ rfl rfl rfl (i64ok ?_)) ?_
        · omega
        refine AList.c 26 rfl rfl rfl (OpJ.move rfl rfl) ?_
        refine AList.c 27 rfl rfl rfl (OpJ.sub_ rfl rfl rfl (i64ok ?_)) ?_
        · omega
        refine AList.c 28 rfl rfl rfl (OpJ.mul rfl rfl rfl (i64ok ?_)) ?_
        · omega
        refine AList.c 29 rfl rfl rfl (OpJ.move rfl rfl) ?_
        refine AList.c 30 rfl rfl rfl (OpJ.mul rfl rfl rfl (i64ok ?_)) ?_
        · omega
        refine AList.c 8 rfl rfl rfl (OpJ.assign rfl rfl) ?_
        refine AList.nil ?_
        refine AWp.ret ?_
        refine Fin.oneE rfl rfl ?_
        simp_all [ofF, dropsF, coalF, smokeF, bakedF]
      · skip
        refine AWp.seq ?_
        refine AWp.region ?_
        refine AList.c 32 rfl rfl rfl (OpJ.eql rfl rfl rfl) ?_
        refine AList.c 31 rfl rfl rfl (OpJ.assign rfl rfl) ?_
        refine AList.nil ?_
        refine AWp.cond _ rfl (fun hc3 => ?_) (fun hc3 => ?_)
        · skip
          refine AWp.seq ?_
          refine AWp.region ?_
          refine AList.c 33 rfl rfl rfl (OpJ.move rfl rfl) ?_
          refine AList.c 34 rfl rfl rfl (OpJ.sub_ rfl rfl rfl (i64ok ?_)) ?_
          · omega
          refine AList.c 35 rfl rfl rfl (OpJ.move rfl rfl) ?_
          refine AList.c 36 rfl rfl rfl (OpJ.sub_ rfl rfl rfl (i64ok ?_)) ?_
          · omega
          refine AList.c 37 rfl rfl rfl (OpJ.mul rfl rfl rfl (i64ok ?_)) ?_
          · omega
          refine AList.c 38 rfl rfl rfl (OpJ.move rfl rfl) ?_
          refine AList.c 39 rfl rfl rfl (OpJ.sub_ rfl rfl rfl (i64ok ?_)) ?_
          · omega
          refine AList.c 40 rfl rfl rfl (OpJ.mul rfl rfl rfl (i64ok ?_)) ?_
          · omega
          refine AList.c 8 rfl rfl rfl (OpJ.assign rfl rfl) ?_
          refine AList.nil ?_
          refine AWp.ret ?_
          refine Fin.oneE rfl rfl ?_
          simp_all [ofF, dropsF, coalF, smokeF, bakedF]
        · skip
          exfalso; simp at hc0 hc1 hc2 hc3; omega
theorem rOf4_ok (w c l : Int) (hs : okSt w c l) : Pure Try.prog 62 [.int .i64 4, .int .i64 w, .int .i64 c, .int .i64 l] (.int .i64 (ofF 4 w c l)) := by
  have b1 := ofB (k := 1) hs
  have b2 := ofB (k := 3) hs
  refine Pure.start (N := 50) Try.func62 rfl rfl (Nat.le_of_ble_eq_true rfl) ?_
  refine AWp.seq ?_
  refine AWp.region ?_
  refine AList.c 8 rfl rfl rfl (OpJ.assign rfl rfl) ?_
  refine AList.nil ?_
  refine AWp.seq ?_
  refine AWp.seq ?_
  refine AWp.region ?_
  refine AList.c 9 rfl rfl rfl (OpJ.move rfl rfl) ?_
  refine AList.nil ?_
  refine AWp.block ?_
  refine AWp.seq ?_
  refine AWp.region ?_
  refine AList.c 11 rfl rfl rfl (OpJ.eql rfl rfl rfl) ?_
  refine AList.c 10 rfl rfl rfl (OpJ.assign rfl rfl) ?_
  refine AList.nil ?_
  refine AWp.cond _ rfl (fun hc0 => ?_) (fun hc0 => ?_)
  · skip
    exact absurd hc0 (by decide)
  · skip
    refine AWp.seq ?_
    refine AWp.region ?_
    refine AList.c 16 rfl rfl rfl (OpJ.eql rfl rfl rfl) ?_
    refine AList.c 15 rfl rfl rfl (OpJ.assign rfl rfl) ?_
    refine AList.nil ?_
    refine AWp.cond _ rfl (fun hc1 => ?_) (fun hc1 => ?_)
    · skip
      exact absurd hc1 (by decide)
    · skip
      refine AWp.seq ?_
      refine AWp.region ?_
      refine AList.c 23 rfl rfl rfl (OpJ.eql rfl rfl rfl) ?_
      refine AList.c 22 rfl rfl rfl (OpJ.assign rfl rfl) ?_
      refine AList.nil ?_
      refine AWp.cond _ rfl (fun hc2 => ?_) (fun hc2 => ?_)
      · skip
        exact absurd hc2 (by decide)
      · skip
        refine AWp.seq ?_
        refine AWp.region ?_
        refine AList.c 32 rfl rfl rfl (OpJ.eql rfl rfl rfl) ?_
        refine AList.c 31 rfl rfl rfl (OpJ.assign rfl rfl) ?_
        refine AList.nil ?_
        refine AWp.cond _ rfl (fun hc3 => ?_) (fun hc3 => ?_)
        · skip
          exact absurd hc3 (by decide)
        · skip
          refine AWp.skip ?_
          refine AWp.seq ?_
          refine AWp.region ?_
          refine AList.c 41 rfl rfl rfl (OpJ.move rfl rfl) ?_
          refine AList.c 42 rfl rfl rfl (OpJ.move rfl rfl) ?_
          refine AList.c 43 rfl rfl rfl (OpJ.move rfl rfl) ?_
          refine AList.c 44 rfl rfl rfl (OpJ.callP (rOf3_ok _ _ _ _ ?_ ?_) rfl rfl rfl rfl rf62) ?_
          · omega
          · assumption
          refine AList.c 45 rfl rfl rfl (OpJ.move rfl rfl) ?_
          refine AList.c 46 rfl rfl rfl (OpJ.move rfl rfl) ?_
          refine AList.c 47 rfl rfl rfl (OpJ.move rfl rfl) ?_
          refine AList.c 48 rfl rfl rfl (OpJ.callP (rOf3_ok _ _ _ _ ?_ ?_) rfl rfl rfl rfl rf62) ?_
          · omega
          · assumption
          refine AList.c 49 rfl rfl rfl (OpJ.add rfl rfl rfl (i64ok ?_)) ?_
          · omega
          refine AList.c 8 rfl rfl rfl (OpJ.assign rfl rfl) ?_
          refine AList.nil ?_
          refine AWp.ret ?_
          refine Fin.oneE rfl rfl ?_
          simp [ofF, leadF]
theorem rOf_ok (k w c l : Int) (hk : 0 ≤ k ∧ k ≤ 4) (hs : okSt w c l) : Pure Try.prog 62 [.int .i64 k, .int .i64 w, .int .i64 c, .int .i64 l] (.int .i64 (ofF k w c l)) := by
  by_cases h : k = 4
  · subst h; exact rOf4_ok w c l hs
  · exact rOf3_ok k w c l (by omega) hs
theorem rCorners_ok (s : Sk) : Pure Try.prog 63 [.agg s.cells] (.is (cornersCells s 8) 8) := by
  refine Pure.start (N := 47) Try.func63 rfl rfl (Nat.le_of_ble_eq_true rfl) ?_
  refine AWp.seq ?_
  refine AWp.region ?_
  refine AList.c 1 rfl rfl rfl (OpJ.boxImm rfl rfl rfl) ?_
  refine AList.c 2 rfl rfl rfl (OpJ.assign rfl rfl) ?_
  refine AList.nil ?_
  refine AWp.seq ?_
  refine AWp.region ?_
  refine AList.c 3 rfl rfl rfl (OpJ.assign rfl rfl) ?_
  refine AList.nil ?_
  refine AWp.seq ?_
  refine AWp.seq ?_
  refine AWp.region ?_
  refine AList.c 4 rfl rfl rfl (OpJ.assign rfl rfl) ?_
  refine AList.nil ?_
  refine AWp.block ?_
  refine AWp.loopH [3, 4, 5, 6, 7, 8, 9, 10, 11, 12, 13, 14, 15, 16, 17, 18, 19, 20, 21, 22, 23, 24, 25, 26, 27, 28, 29, 30, 31, 32, 33, 34, 35, 36, 37, 38, 39, 40, 41, 42, 43, 44, 45] (fun g => [(4, .p (.int .i64 ((g : Nat) : Int))), (3, accV 0 g)]) (fun g => [accB ((cornersCells s g).map .p) 88 g]) (fun g => g ≤ 8) (fun g => 8 - g) 0 (by omega) (To.pad.trans (To.sub (fun _ _ h => h))) (fun i hg => ?_)
  have q2 := tdiv_le (n := (i : Int)) (d := 2) (B := 8) (by omega) (by omega)
  have q4 := tdiv_le (n := (i : Int)) (d := 4) (B := 8) (by omega) (by omega)
  refine AWp.seq ?_
  refine AWp.seq ?_
  refine AWp.region ?_
  refine AList.c 6 rfl rfl rfl (OpJ.move rfl rfl) ?_
  refine AList.c 7 rfl rfl rfl (OpJ.lss rfl rfl rfl) ?_
  refine AList.nil ?_
  refine AWp.cond _ rfl (fun hc0 => ?_) (fun hc0 => ?_)
  · skip
    refine AWp.skip ?_
    refine AWp.seq ?_
    refine AWp.block ?_
    refine AWp.seq ?_
    refine AWp.region ?_
    refine AList.c 10 rfl rfl rfl (OpJ.fieldAddr rfl rfl fd57_0 rfl) ?_
    refine AList.c 11 rfl rfl rfl (OpJ.fieldAddr rfl rfl fd25_0 rfl) ?_
    refine AList.c 12 rfl rfl rfl (OpJ.load rfl rfl ty3 rfl) ?_
    refine AList.c 13 rfl rfl rfl (OpJ.fieldAddr rfl rfl fd57_1 rfl) ?_
    refine AList.c 14 rfl rfl rfl (OpJ.fieldAddr rfl rfl fd25_0 rfl) ?_
    refine AList.c 15 rfl rfl rfl (OpJ.load rfl rfl ty3 rfl) ?_
    refine AList.c 16 rfl rfl rfl (OpJ.fieldAddr rfl rfl fd57_2 rfl) ?_
    refine AList.c 17 rfl rfl rfl (OpJ.fieldAddr rfl rfl fd25_0 rfl) ?_
    refine AList.c 18 rfl rfl rfl (OpJ.load rfl rfl ty3 rfl) ?_
    refine AList.c 19 rfl rfl rfl (OpJ.build rfl bd88 rfl rfl) ?_
    refine AList.c 5 rfl rfl rfl (OpJ.allocOwn rfl zr88 rfl) ?_
    refine AList.c0 rfl rfl (OpJ.store rfl rfl rfl rfl rfl ty88 rfl rfl) ?_
    refine AList.nil ?_
    refine AWp.seq ?_
    refine AWp.seq ?_
    refine AWp.region ?_
    refine AList.c 20 rfl rfl rfl (OpJ.move rfl rfl) ?_
    refine AList.c 21 rfl rfl rfl (OpJ.rem rfl rfl rfl ?_ rfl) ?_
    · omega
    refine AList.c 22 rfl rfl rfl (OpJ.eql rfl rfl rfl) ?_
    refine AList.nil ?_
    refine AWp.cond _ rfl (fun hc1 => ?_) (fun hc1 => ?_)
    · skip
      refine AWp.region ?_
      refine AList.c 23 rfl rfl rfl (OpJ.fieldAddr rfl rfl fd57_0 rfl) ?_
      refine AList.c 24 rfl rfl rfl (OpJ.fieldAddr rfl rfl fd25_1 rfl) ?_
      refine AList.c 25 rfl rfl rfl (OpJ.load rfl rfl ty3 rfl) ?_
      refine AList.c 26 rfl rfl rfl (OpJ.fieldAddr rfl rfl fd88_0 rfl) ?_
      refine AList.c0 rfl rfl (OpJ.store rfl rfl rfl rfl rfl ty3 rfl rfl) ?_
      refine AList.nil ?_
      refine AWp.seq ?_
      refine AWp.seq ?_
      refine AWp.region ?_
      refine AList.c 27 rfl rfl rfl (OpJ.move rfl rfl) ?_
      refine AList.c 28 rfl rfl rfl (OpJ.quo rfl rfl rfl ?_ (i64ok ?_)) ?_
      · omega
      · simp at hc0; omega
      refine AList.c 29 rfl rfl rfl (OpJ.rem rfl rfl rfl ?_ rfl) ?_
      · omega
      refine AList.c 30 rfl rfl rfl (OpJ.eql rfl rfl rfl) ?_
      refine AList.nil ?_
      refine AWp.cond _ rfl (fun hc2 => ?_) (fun hc2 => ?_)
      · skip
        refine AWp.region ?_
        refine AList.c 31 rfl rfl rfl (OpJ.fieldAddr rfl rfl fd57_1 rfl) ?_
        refine AList.c 32 rfl rfl rfl (OpJ.fieldAddr rfl rfl fd25_1 rfl) ?_
        refine AList.c 33 rfl rfl rfl (OpJ.load rfl rfl ty3 rfl) ?_
        refine AList.c 34 rfl rfl rfl (OpJ.fieldAddr rfl rfl fd88_1 rfl) ?_
        refine AList.c0 rfl rfl (OpJ.store rfl rfl rfl rfl rfl ty3 rfl rfl) ?_
        refine AList.nil ?_
        refine AWp.seq ?_
        refine AWp.seq ?_
        refine AWp.region ?_
        refine AList.c 35 rfl rfl rfl (OpJ.move rfl rfl) ?_
        refine AList.c 36 rfl rfl rfl (OpJ.quo rfl rfl rfl ?_ (i64ok ?_)) ?_
        · omega
        · simp at hc0; omega
        refine AList.c 37 rfl rfl rfl (OpJ.eql rfl rfl rfl) ?_
        refine AList.nil ?_
        refine AWp.cond _ rfl (fun hc3 => ?_) (fun hc3 => ?_)
        · skip
          refine AWp.region ?_
          refine AList.c 38 rfl rfl rfl (OpJ.fieldAddr rfl rfl fd57_2 rfl) ?_
          refine AList.c 39 rfl rfl rfl (OpJ.fieldAddr rfl rfl fd25_1 rfl) ?_
          refine AList.c 40 rfl rfl rfl (OpJ.load rfl rfl ty3 rfl) ?_
          refine AList.c 41 rfl rfl rfl (OpJ.fieldAddr rfl rfl fd88_2 rfl) ?_
          refine AList.c0 rfl rfl (OpJ.store rfl rfl rfl rfl rfl ty3 rfl rfl) ?_
          refine AList.nil ?_
          refine AWp.region ?_
          refine AList.c 42 rfl rfl rfl (OpJ.move rfl rfl) ?_
          refine AList.c 43 rfl rfl rfl (OpJ.load rfl rfl ty88 rfl) ?_
          refine AList.c 44 rfl rfl rfl (OpJ.buildImm rfl slz41 (by decide) rfl rfl rfl) ?_
          refine AList.c 45 rfl rfl rfl (OpJ.appendAcc rfl rfl rfl slz41 sl41 rfl ?_ rfl (by decide) rfl by88 (by decide) ?_) ?_
          · simp [cornersCells_length]
          · simp at hc0; omega
          refine AList.c 3 rfl rfl rfl (OpJ.assign rfl rfl) ?_
          refine AList.nil ?_
          refine AWp.region ?_
          refine AList.c 8 rfl rfl rfl (OpJ.move rfl rfl) ?_
          refine AList.c 9 rfl rfl rfl (OpJ.add rfl rfl rfl (i64ok ?_)) ?_
          · simp at hc0; omega
          refine AList.c 4 rfl rfl rfl (OpJ.assign rfl rfl) ?_
          refine AList.nil ?_
          refine ⟨i + 1, ?_, ?_, ?_⟩
          · simp at hc0; omega
          · simp at hc0; omega
          refine To.done [2] rfl (by repeat (first | exact Sub.nil | refine Sub.cons rfl ?_)) ?_
          show [Blk.row (renL _ (_ ++ _)) _] = [Blk.row _ _]
          rw [renL_app, renL_pure, cornersCells_succ, List.map_append]
          simp only [decide_eq_true_eq, decide_eq_false_iff_not] at hc1 hc2 hc3
          simp only [cornerCells, Sk.cw, Sk.cc, Sk.cl, hc1, hc2, hc3, if_true, if_false, List.map_cons, List.map_nil, renL, renV]
        · skip
          refine AWp.skip ?_
          refine AWp.region ?_
          refine AList.c 42 rfl rfl rfl (OpJ.move rfl rfl) ?_
          refine AList.c 43 rfl rfl rfl (OpJ.load rfl rfl ty88 rfl) ?_
          refine AList.c 44 rfl rfl rfl (OpJ.buildImm rfl slz41 (by decide) rfl rfl rfl) ?_
          refine AList.c 45 rfl rfl rfl (OpJ.appendAcc rfl rfl rfl slz41 sl41 rfl ?_ rfl (by decide) rfl by88 (by decide) ?_) ?_
          · simp [cornersCells_length]
          · simp at hc0; omega
          refine AList.c 3 rfl rfl rfl (OpJ.assign rfl rfl) ?_
          refine AList.nil ?_
          refine AWp.region ?_
          refine AList.c 8 rfl rfl rfl (OpJ.move rfl rfl) ?_
          refine AList.c 9 rfl rfl rfl (OpJ.add rfl rfl rfl (i64ok ?_)) ?_
          · simp at hc0; omega
          refine AList.c 4 rfl rfl rfl (OpJ.assign rfl rfl) ?_
          refine AList.nil ?_
          refine ⟨i + 1, ?_, ?_, ?_⟩
          · simp at hc0; omega
          · simp at hc0; omega
          refine To.done [2] rfl (by repeat (first | exact Sub.nil | refine Sub.cons rfl ?_)) ?_
          show [Blk.row (renL _ (_ ++ _)) _] = [Blk.row _ _]
          rw [renL_app, renL_pure, cornersCells_succ, List.map_append]
          simp only [decide_eq_true_eq, decide_eq_false_iff_not] at hc1 hc2 hc3
          simp only [cornerCells, Sk.cw, Sk.cc, Sk.cl, hc1, hc2, hc3, if_true, if_false, List.map_cons, List.map_nil, renL, renV]
      · skip
        refine AWp.skip ?_
        refine AWp.seq ?_
        refine AWp.seq ?_
        refine AWp.region ?_
        refine AList.c 35 rfl rfl rfl (OpJ.move rfl rfl) ?_
        refine AList.c 36 rfl rfl rfl (OpJ.quo rfl rfl rfl ?_ (i64ok ?_)) ?_
        · omega
        · simp at hc0; omega
        refine AList.c 37 rfl rfl rfl (OpJ.eql rfl rfl rfl) ?_
        refine AList.nil ?_
        refine AWp.cond _ rfl (fun hc3 => ?_) (fun hc3 => ?_)
        · skip
          refine AWp.region ?_
          refine AList.c 38 rfl rfl rfl (OpJ.fieldAddr rfl rfl fd57_2 rfl) ?_
          refine AList.c 39 rfl rfl rfl (OpJ.fieldAddr rfl rfl fd25_1 rfl) ?_
          refine AList.c 40 rfl rfl rfl (OpJ.load rfl rfl ty3 rfl) ?_
          refine AList.c 41 rfl rfl rfl (OpJ.fieldAddr rfl rfl fd88_2 rfl) ?_
          refine AList.c0 rfl rfl (OpJ.store rfl rfl rfl rfl rfl ty3 rfl rfl) ?_
          refine AList.nil ?_
          refine AWp.region ?_
          refine AList.c 42 rfl rfl rfl (OpJ.move rfl rfl) ?_
          refine AList.c 43 rfl rfl rfl (OpJ.load rfl rfl ty88 rfl) ?_
          refine AList.c 44 rfl rfl rfl (OpJ.buildImm rfl slz41 (by decide) rfl rfl rfl) ?_
          refine AList.c 45 rfl rfl rfl (OpJ.appendAcc rfl rfl rfl slz41 sl41 rfl ?_ rfl (by decide) rfl by88 (by decide) ?_) ?_
          · simp [cornersCells_length]
          · simp at hc0; omega
          refine AList.c 3 rfl rfl rfl (OpJ.assign rfl rfl) ?_
          refine AList.nil ?_
          refine AWp.region ?_
          refine AList.c 8 rfl rfl rfl (OpJ.move rfl rfl) ?_
          refine AList.c 9 rfl rfl rfl (OpJ.add rfl rfl rfl (i64ok ?_)) ?_
          · simp at hc0; omega
          refine AList.c 4 rfl rfl rfl (OpJ.assign rfl rfl) ?_
          refine AList.nil ?_
          refine ⟨i + 1, ?_, ?_, ?_⟩
          · simp at hc0; omega
          · simp at hc0; omega
          refine To.done [2] rfl (by repeat (first | exact Sub.nil | refine Sub.cons rfl ?_)) ?_
          show [Blk.row (renL _ (_ ++ _)) _] = [Blk.row _ _]
          rw [renL_app, renL_pure, cornersCells_succ, List.map_append]
          simp only [decide_eq_true_eq, decide_eq_false_iff_not] at hc1 hc2 hc3
          simp only [cornerCells, Sk.cw, Sk.cc, Sk.cl, hc1, hc2, hc3, if_true, if_false, List.map_cons, List.map_nil, renL, renV]
        · skip
          refine AWp.skip ?_
          refine AWp.region ?_
          refine AList.c 42 rfl rfl rfl (OpJ.move rfl rfl) ?_
          refine AList.c 43 rfl rfl rfl (OpJ.load rfl rfl ty88 rfl) ?_
          refine AList.c 44 rfl rfl rfl (OpJ.buildImm rfl slz41 (by decide) rfl rfl rfl) ?_
          refine AList.c 45 rfl rfl rfl (OpJ.appendAcc rfl rfl rfl slz41 sl41 rfl ?_ rfl (by decide) rfl by88 (by decide) ?_) ?_
          · simp [cornersCells_length]
          · simp at hc0; omega
          refine AList.c 3 rfl rfl rfl (OpJ.assign rfl rfl) ?_
          refine AList.nil ?_
          refine AWp.region ?_
          refine AList.c 8 rfl rfl rfl (OpJ.move rfl rfl) ?_
          refine AList.c 9 rfl rfl rfl (OpJ.add rfl rfl rfl (i64ok ?_)) ?_
          · simp at hc0; omega
          refine AList.c 4 rfl rfl rfl (OpJ.assign rfl rfl) ?_
          refine AList.nil ?_
          refine ⟨i + 1, ?_, ?_, ?_⟩
          · simp at hc0; omega
          · simp at hc0; omega
          refine To.done [2] rfl (by repeat (first | exact Sub.nil | refine Sub.cons rfl ?_)) ?_
          show [Blk.row (renL _ (_ ++ _)) _] = [Blk.row _ _]
          rw [renL_app, renL_pure, cornersCells_succ, List.map_append]
          simp only [decide_eq_true_eq, decide_eq_false_iff_not] at hc1 hc2 hc3
          simp only [cornerCells, Sk.cw, Sk.cc, Sk.cl, hc1, hc2, hc3, if_true, if_false, List.map_cons, List.map_nil, renL, renV]
    · skip
      refine AWp.skip ?_
      refine AWp.seq ?_
      refine AWp.seq ?_
      refine AWp.region ?_
      refine AList.c 27 rfl rfl rfl (OpJ.move rfl rfl) ?_
      refine AList.c 28 rfl rfl rfl (OpJ.quo rfl rfl rfl ?_ (i64ok ?_)) ?_
      · omega
      · simp at hc0; omega
      refine AList.c 29 rfl rfl rfl (OpJ.rem rfl rfl rfl ?_ rfl) ?_
      · omega
      refine AList.c 30 rfl rfl rfl (OpJ.eql rfl rfl rfl) ?_
      refine AList.nil ?_
      refine AWp.cond _ rfl (fun hc2 => ?_) (fun hc2 => ?_)
      · skip
        refine AWp.region ?_
        refine AList.c 31 rfl rfl rfl (OpJ.fieldAddr rfl rfl fd57_1 rfl) ?_
        refine AList.c 32 rfl rfl rfl (OpJ.fieldAddr rfl rfl fd25_1 rfl) ?_
        refine AList.c 33 rfl rfl rfl (OpJ.load rfl rfl ty3 rfl) ?_
        refine AList.c 34 rfl rfl rfl (OpJ.fieldAddr rfl rfl fd88_1 rfl) ?_
        refine AList.c0 rfl rfl (OpJ.store rfl rfl rfl rfl rfl ty3 rfl rfl) ?_
        refine AList.nil ?_
        refine AWp.seq ?_
        refine AWp.seq ?_
        refine AWp.region ?_
        refine AList.c 35 rfl rfl rfl (OpJ.move rfl rfl) ?_
        refine AList.c 36 rfl rfl rfl (OpJ.quo rfl rfl rfl ?_ (i64ok ?_)) ?_
        · omega
        · simp at hc0; omega
        refine AList.c 37 rfl rfl rfl (OpJ.eql rfl rfl rfl) ?_
        refine AList.nil ?_
        refine AWp.cond _ rfl (fun hc3 => ?_) (fun hc3 => ?_)
        · skip
          refine AWp.region ?_
          refine AList.c 38 rfl rfl rfl (OpJ.fieldAddr rfl rfl fd57_2 rfl) ?_
          refine AList.c 39 rfl rfl rfl (OpJ.fieldAddr rfl rfl fd25_1 rfl) ?_
          refine AList.c 40 rfl rfl rfl (OpJ.load rfl rfl ty3 rfl) ?_
          refine AList.c 41 rfl rfl rfl (OpJ.fieldAddr rfl rfl fd88_2 rfl) ?_
          refine AList.c0 rfl rfl (OpJ.store rfl rfl rfl rfl rfl ty3 rfl rfl) ?_
          refine AList.nil ?_
          refine AWp.region ?_
          refine AList.c 42 rfl rfl rfl (OpJ.move rfl rfl) ?_
          refine AList.c 43 rfl rfl rfl (OpJ.load rfl rfl ty88 rfl) ?_
          refine AList.c 44 rfl rfl rfl (OpJ.buildImm rfl slz41 (by decide) rfl rfl rfl) ?_
          refine AList.c 45 rfl rfl rfl (OpJ.appendAcc rfl rfl rfl slz41 sl41 rfl ?_ rfl (by decide) rfl by88 (by decide) ?_) ?_
          · simp [cornersCells_length]
          · simp at hc0; omega
          refine AList.c 3 rfl rfl rfl (OpJ.assign rfl rfl) ?_
          refine AList.nil ?_
          refine AWp.region ?_
          refine AList.c 8 rfl rfl rfl (OpJ.move rfl rfl) ?_
          refine AList.c 9 rfl rfl rfl (OpJ.add rfl rfl rfl (i64ok ?_)) ?_
          · simp at hc0; omega
          refine AList.c 4 rfl rfl rfl (OpJ.assign rfl rfl) ?_
          refine AList.nil ?_
          refine ⟨i + 1, ?_, ?_, ?_⟩
          · simp at hc0; omega
          · simp at hc0; omega
          refine To.done [2] rfl (by repeat (first | exact Sub.nil | refine Sub.cons rfl ?_)) ?_
          show [Blk.row (renL _ (_ ++ _)) _] = [Blk.row _ _]
          rw [renL_app, renL_pure, cornersCells_succ, List.map_append]
          simp only [decide_eq_true_eq, decide_eq_false_iff_not] at hc1 hc2 hc3
          simp only [cornerCells, Sk.cw, Sk.cc, Sk.cl, hc1, hc2, hc3, if_true, if_false, List.map_cons, List.map_nil, renL, renV]
        · skip
          refine AWp.skip ?_
          refine AWp.region ?_
          refine AList.c 42 rfl rfl rfl (OpJ.move rfl rfl) ?_
          refine AList.c 43 rfl rfl rfl (OpJ.load rfl rfl ty88 rfl) ?_
          refine AList.c 44 rfl rfl rfl (OpJ.buildImm rfl slz41 (by decide) rfl rfl rfl) ?_
          refine AList.c 45 rfl rfl rfl (OpJ.appendAcc rfl rfl rfl slz41 sl41 rfl ?_ rfl (by decide) rfl by88 (by decide) ?_) ?_
          · simp [cornersCells_length]
          · simp at hc0; omega
          refine AList.c 3 rfl rfl rfl (OpJ.assign rfl rfl) ?_
          refine AList.nil ?_
          refine AWp.region ?_
          refine AList.c 8 rfl rfl rfl (OpJ.move rfl rfl) ?_
          refine AList.c 9 rfl rfl rfl (OpJ.add rfl rfl rfl (i64ok ?_)) ?_
          · simp at hc0; omega
          refine AList.c 4 rfl rfl rfl (OpJ.assign rfl rfl) ?_
          refine AList.nil ?_
          refine ⟨i + 1, ?_, ?_, ?_⟩
          · simp at hc0; omega
          · simp at hc0; omega
          refine To.done [2] rfl (by repeat (first | exact Sub.nil | refine Sub.cons rfl ?_)) ?_
          show [Blk.row (renL _ (_ ++ _)) _] = [Blk.row _ _]
          rw [renL_app, renL_pure, cornersCells_succ, List.map_append]
          simp only [decide_eq_true_eq, decide_eq_false_iff_not] at hc1 hc2 hc3
          simp only [cornerCells, Sk.cw, Sk.cc, Sk.cl, hc1, hc2, hc3, if_true, if_false, List.map_cons, List.map_nil, renL, renV]
      · skip
        refine AWp.skip ?_
        refine AWp.seq ?_
        refine AWp.seq ?_
        refine AWp.region ?_
        refine AList.c 35 rfl rfl rfl (OpJ.move rfl rfl) ?_
        refine AList.c 36 rfl rfl rfl (OpJ.quo rfl rfl rfl ?_ (i64ok ?_)) ?_
        · omega
        · simp at hc0; omega
        refine AList.c 37 rfl rfl rfl (OpJ.eql rfl rfl rfl) ?_
        refine AList.nil ?_
        refine AWp.cond _ rfl (fun hc3 => ?_) (fun hc3 => ?_)
        · skip
          refine AWp.region ?_
          refine AList.c 38 rfl rfl rfl (OpJ.fieldAddr rfl rfl fd57_2 rfl) ?_
          refine AList.c 39 rfl rfl rfl (OpJ.fieldAddr rfl rfl fd25_1 rfl) ?_
          refine AList.c 40 rfl rfl rfl (OpJ.load rfl rfl ty3 rfl) ?_
          refine AList.c 41 rfl rfl rfl (OpJ.fieldAddr rfl rfl fd88_2 rfl) ?_
          refine AList.c0 rfl rfl (OpJ.store rfl rfl rfl rfl rfl ty3 rfl rfl) ?_
          refine AList.nil ?_
          refine AWp.region ?_
          refine AList.c 42 rfl rfl rfl (OpJ.move rfl rfl) ?_
          refine AList.c 43 rfl rfl rfl (OpJ.load rfl rfl ty88 rfl) ?_
          refine AList.c 44 rfl rfl rfl (OpJ.buildImm rfl slz41 (by decide) rfl rfl rfl) ?_
          refine AList.c 45 rfl rfl rfl (OpJ.appendAcc rfl rfl rfl slz41 sl41 rfl ?_ rfl (by decide) rfl by88 (by decide) ?_) ?_
          · simp [cornersCells_length]
          · simp at hc0; omega
          refine AList.c 3 rfl rfl rfl (OpJ.assign rfl rfl) ?_
          refine AList.nil ?_
          refine AWp.region ?_
          refine AList.c 8 rfl rfl rfl (OpJ.move rfl rfl) ?_
          refine AList.c 9 rfl rfl rfl (OpJ.add rfl rfl rfl (i64ok ?_)) ?_
          · simp at hc0; omega
          refine AList.c 4 rfl rfl rfl (OpJ.assign rfl rfl) ?_
          refine AList.nil ?_
          refine ⟨i + 1, ?_, ?_, ?_⟩
          · simp at hc0; omega
          · simp at hc0; omega
          refine To.done [2] rfl (by repeat (first | exact Sub.nil | refine Sub.cons rfl ?_)) ?_
          show [Blk.row (renL _ (_ ++ _)) _] = [Blk.row _ _]
          rw [renL_app, renL_pure, cornersCells_succ, List.map_append]
          simp only [decide_eq_true_eq, decide_eq_false_iff_not] at hc1 hc2 hc3
          simp only [cornerCells, Sk.cw, Sk.cc, Sk.cl, hc1, hc2, hc3, if_true, if_false, List.map_cons, List.map_nil, renL, renV]
        · skip
          refine AWp.skip ?_
          refine AWp.region ?_
          refine AList.c 42 rfl rfl rfl (OpJ.move rfl rfl) ?_
          refine AList.c 43 rfl rfl rfl (OpJ.load rfl rfl ty88 rfl) ?_
          refine AList.c 44 rfl rfl rfl (OpJ.buildImm rfl slz41 (by decide) rfl rfl rfl) ?_
          refine AList.c 45 rfl rfl rfl (OpJ.appendAcc rfl rfl rfl slz41 sl41 rfl ?_ rfl (by decide) rfl by88 (by decide) ?_) ?_
          · simp [cornersCells_length]
          · simp at hc0; omega
          refine AList.c 3 rfl rfl rfl (OpJ.assign rfl rfl) ?_
          refine AList.nil ?_
          refine AWp.region ?_
          refine AList.c 8 rfl rfl rfl (OpJ.move rfl rfl) ?_
          refine AList.c 9 rfl rfl rfl (OpJ.add rfl rfl rfl (i64ok ?_)) ?_
          · simp at hc0; omega
          refine AList.c 4 rfl rfl rfl (OpJ.assign rfl rfl) ?_
          refine AList.nil ?_
          refine ⟨i + 1, ?_, ?_, ?_⟩
          · simp at hc0; omega
          · simp at hc0; omega
          refine To.done [2] rfl (by repeat (first | exact Sub.nil | refine Sub.cons rfl ?_)) ?_
          show [Blk.row (renL _ (_ ++ _)) _] = [Blk.row _ _]
          rw [renL_app, renL_pure, cornersCells_succ, List.map_append]
          simp only [decide_eq_true_eq, decide_eq_false_iff_not] at hc1 hc2 hc3
          simp only [cornerCells, Sk.cw, Sk.cc, Sk.cl, hc1, hc2, hc3, if_true, if_false, List.map_cons, List.map_nil, renL, renV]
  · skip
    refine AWp.to (To.acc 3 0 i rfl rfl (fun h => by subst h; rfl)) ?_
    refine AWp.exit ?_
    refine AWp.seq ?_
    refine AWp.region ?_
    refine AList.c 46 rfl rfl rfl (OpJ.move rfl rfl) ?_
    refine AList.c 2 rfl rfl rfl (OpJ.assign rfl rfl) ?_
    refine AList.nil ?_
    refine AWp.ret ?_
    refine Fin.oneE rfl rfl ?_
    have h8 : i = 8 := by simp at hc0; omega
    subst h8
    rfl
end Go.Proofs.Ytmcejcidbekpkaa
