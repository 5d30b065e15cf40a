/-
  The chapter's examples.
-/
import Derived.Test.YthiapodcippnoaaSd8
import Derived.Test.YthiapodcippnoaaSdA
import Derived.Test.YthiapodcippnoaaAfK
set_option linter.unusedVariables false
set_option maxRecDepth 100000
set_option maxHeartbeats 4000000
set_option linter.unusedSimpArgs false
namespace Go.Proofs.Ythiapodcippnoaa
open Go.AF
theorem curve_ok  : Pure Try.prog 26 [] (curV curveL) := by
  refine Pure.start (N := 5) Try.func26 rfl rfl (Nat.le_of_ble_eq_true rfl) ?_
  refine AWp.seq ?_
  refine AWp.region ?_
  refine AList.c 0 rfl rfl rfl (OpJ.assign rfl rfl) ?_
  refine AList.nil ?_
  refine AWp.seq ?_
  refine AWp.region ?_
  refine AList.c 1 rfl rfl rfl (OpJ.build rfl bd84 rfl rfl) ?_
  refine AList.c 2 rfl rfl rfl (OpJ.build rfl bd84 rfl rfl) ?_
  refine AList.c 3 rfl rfl rfl (OpJ.build rfl bd84 rfl rfl) ?_
  refine AList.c 4 rfl rfl rfl (OpJ.buildImm rfl slz22 (by decide) rfl rfl rfl) ?_
  refine AList.c 0 rfl rfl rfl (OpJ.assign rfl rfl) ?_
  refine AList.nil ?_
  refine AWp.ret ?_
  exact Fin.one rfl (rfl)
theorem sample_ok  : Pure Try.prog 24 [] (.tuple [ldV smpL, shdV smpS]) := by
  refine Pure.start (N := 29) Try.func24 rfl rfl (Nat.le_of_ble_eq_true rfl) ?_
  refine AWp.seq ?_
  refine AWp.region ?_
  refine AList.c 0 rfl rfl rfl (OpJ.allocOwn rfl zr28 rfl) ?_
  refine AList.c 1 rfl rfl rfl (OpJ.assign rfl rfl) ?_
  refine AList.nil ?_
  refine AWp.seq ?_
  refine AWp.region ?_
  refine AList.c 3 rfl rfl rfl (OpJ.callP (lspan_ok _ _) rfl rfl rfl rfl rf25) ?_
  refine AList.c 4 rfl rfl rfl (OpJ.callP (lspan_ok _ _) rfl rfl rfl rfl rf25) ?_
  refine AList.c 5 rfl rfl rfl (OpJ.callP (lspan_ok _ _) rfl rfl rfl rfl rf25) ?_
  refine AList.c 6 rfl rfl rfl (OpJ.callP (lspan_ok _ _) rfl rfl rfl rfl rf25) ?_
  refine AList.c 7 rfl rfl rfl (OpJ.build rfl bd51 rfl rfl) ?_
  refine AList.c 8 rfl rfl rfl (OpJ.callP (lspan_ok _ _) rfl rfl rfl rfl rf25) ?_
  refine AList.c 9 rfl rfl rfl (OpJ.callP (lspan_ok _ _) rfl rfl rfl rfl rf25) ?_
  refine AList.c 10 rfl rfl rfl (OpJ.build rfl bd51 rfl rfl) ?_
  refine AList.c 11 rfl rfl rfl (OpJ.buildImm rfl slz26 (by decide) rfl rfl rfl) ?_
  refine AList.c 12 rfl rfl rfl (OpJ.callP (lspan_ok _ _) rfl rfl rfl rfl rf25) ?_
  refine AList.c 13 rfl rfl rfl (OpJ.callP (lspan_ok _ _) rfl rfl rfl rfl rf25) ?_
  refine AList.c 14 rfl rfl rfl (OpJ.buildR (v := .p (ldV smpL)) rfl bd28 rfl rfl rfl) ?_
  refine AList.c 2 rfl rfl rfl (OpJ.allocOwn rfl zr28 rfl) ?_
  refine AList.c0 rfl rfl (OpJ.store (H' := [.cells ((cellsP (.agg ((Lds.mk 0 0 0 0 0 [] 0 0 0 0 0).cellsN))).map .p) 28, .cells (smpL.cells.map .p) 28]) rfl rfl rfl rfl rfl ty28 rfl rfl) ?_
  refine AList.nil ?_
  refine AWp.seq ?_
  refine AWp.regionDrawG 15 0 [0] [([], false), ([], false), ([], false), ([], false), ([], false), ([], false), ([], false), ([], false), ([], false), ([], false), ([], false), ([], false), ([], false), ([], false), ([0], true)] mixed (by kernel_rfl) (by decide) (by kernel_rfl) rfl rfl ?_
  refine AQG.cons 15 rfl rfl rfl (fun _ => (OpJ.load (v := .p (ldV smpL)) rfl rfl ty28 rfl)) rfl ?_
  refine AQG.cons 16 rfl rfl rfl (fun _ => (OpJ.callP (lspan_ok _ _) rfl rfl rfl rfl rf25)) rfl ?_
  refine AQG.cons 17 rfl rfl rfl (fun _ => (OpJ.callP (lspan_ok _ _) rfl rfl rfl rfl rf25)) rfl ?_
  refine AQG.cons 18 rfl rfl rfl (fun _ => (OpJ.callP (lspan_ok _ _) rfl rfl rfl rfl rf25)) rfl ?_
  refine AQG.cons 19 rfl rfl rfl (fun _ => (OpJ.buildR (v := .p (.agg (sh smpS 0).cells)) rfl bd66 rfl rfl rfl)) rfl ?_
  refine AQG.cons 20 rfl rfl rfl (fun _ => (OpJ.callP (lspan_ok _ _) rfl rfl rfl rfl rf25)) rfl ?_
  refine AQG.cons 21 rfl rfl rfl (fun _ => (OpJ.callP (lspan_ok _ _) rfl rfl rfl rfl rf25)) rfl ?_
  refine AQG.cons 22 rfl rfl rfl (fun _ => (OpJ.callP (lspan_ok _ _) rfl rfl rfl rfl rf25)) rfl ?_
  refine AQG.cons 23 rfl rfl rfl (fun _ => (OpJ.buildR (v := .p (.agg (sh smpS 1).cells)) rfl bd66 rfl rfl rfl)) rfl ?_
  refine AQG.cons 24 rfl rfl rfl (fun _ => (OpJ.callP (lspan_ok _ _) rfl rfl rfl rfl rf25)) rfl ?_
  refine AQG.cons 25 rfl rfl rfl (fun _ => (OpJ.callP (lspan_ok _ _) rfl rfl rfl rfl rf25)) rfl ?_
  refine AQG.cons 26 rfl rfl rfl (fun _ => (OpJ.callP (lspan_ok _ _) rfl rfl rfl rfl rf25)) rfl ?_
  refine AQG.cons 27 rfl rfl rfl (fun _ => (OpJ.buildR (v := .p (.agg (sh smpS 2).cells)) rfl bd66 rfl rfl rfl)) rfl ?_
  refine AQG.cons 28 rfl rfl rfl (fun _ => (OpJ.buildImm rfl slz23 (by decide) rfl rfl rfl)) rfl ?_
  refine AQG.put 0 rfl rfl rfl rfl (fun _ => (OpJ.store rfl rfl rfl rfl rfl ty28 rfl rfl)) rfl rfl ?_
  refine AQG.nil ?_
  refine AList.c 1 rfl rfl rfl (OpJ.assign rfl rfl) ?_
  refine AList.nil ?_
  refine AWp.ret ?_
  exact Fin.many (xs := [ldV smpL, shdV smpS]) rfl (⟨_, _, rfl, ⟨_, _, _, rfl, ty28, rfl⟩, ⟨_, _, rfl, rfl, rfl⟩⟩) rfl
theorem four_ok  : Pure Try.prog 27 [] (.tuple [curV fourC, ldsV fourL]) := by
  refine Pure.start (N := 40) Try.func27 rfl rfl (Nat.le_of_ble_eq_true rfl) ?_
  refine AWp.seq ?_
  refine AWp.region ?_
  refine AList.c 0 rfl rfl rfl (OpJ.assign rfl rfl) ?_
  refine AList.c 1 rfl rfl rfl (OpJ.assign rfl rfl) ?_
  refine AList.nil ?_
  refine AWp.seq ?_
  refine AWp.region ?_
  refine AList.c 2 rfl rfl rfl (OpJ.assign rfl rfl) ?_
  refine AList.nil ?_
  refine AWp.seq ?_
  refine AWp.seq ?_
  refine AWp.region ?_
  refine AList.c 5 rfl rfl rfl (OpJ.build rfl bd116 rfl rfl) ?_
  refine AList.c 6 rfl rfl rfl (OpJ.build rfl bd116 rfl rfl) ?_
  refine AList.c 7 rfl rfl rfl (OpJ.build rfl bd116 rfl rfl) ?_
  refine AList.c 8 rfl rfl rfl (OpJ.build rfl bd116 rfl rfl) ?_
  refine AList.c 9 rfl rfl rfl (OpJ.isR (xs := fourX.flatMap triC) (OpJ.buildImm rfl slz117 (by decide) rfl rfl rfl) rfl) ?_
  refine AList.c 10 rfl rfl rfl (OpJ.lenSlice rfl rfl sl117 rfl) ?_
  refine AList.c 11 rfl rfl rfl (OpJ.move rfl rfl) ?_
  refine AList.nil ?_
  refine AWp.block ?_
  refine AWp.loopHL [0, 1, 9, 10, 36, 37, 38, 39] (fun g => [(11, .p (.int .i64 ((g : Nat) : Int))), (2, accV 0 g)]) (fun g => [accB ((((fourX.take g).map fourOne).flatMap Lds.cellsN).map .p) 28 g]) (fun g => g ≤ 4) (fun g => 4 - g) 0 (Nat.zero_le _) (To.pad.trans (To.sub (Sub.chk (Sub.cons rfl (Sub.cons rfl Sub.nil))))) (fun i hg => ?_)
  refine AWp.seq ?_
  refine AWp.region ?_
  refine AList.c 12 rfl rfl rfl (OpJ.lss rfl rfl rfl) ?_
  refine AList.nil ?_
  refine AWp.seq ?_
  refine AWp.cond _ rfl (fun hc0 => ?_) (fun hc0 => ?_)
  · skip
    have hk0 : i < fourX.length := by have h := of_decide_eq_true hc0; exact Int.ofNat_lt.1 h
    have hi4 : i < 4 := hk0
    have hB := fx_B i hi4
    refine AWp.skip ?_
    refine AWp.seq ?_
    refine AWp.block ?_
    refine AWp.seq ?_
    refine AWp.region ?_
    refine AList.c 13 rfl rfl rfl (OpJ.indexG (g := fx) fx_get rfl rfl rfl sl117 el117 rfl (fun _ => rfl) (by decide) hk0) ?_
    refine AList.c 14 rfl rfl rfl (OpJ.load (v := .p (.agg (triC (fx i)))) rfl rfl ty116 rfl) ?_
    refine AList.c 4 rfl rfl rfl (OpJ.allocOwn rfl zr116 rfl) ?_
    refine AList.c0 rfl rfl (OpJ.store (H' := [accB ((((fourX.take i).map fourOne).flatMap Lds.cellsN).map .p) 28 i, .cells ((triC (fx i)).map .p) 116]) rfl rfl rfl rfl rfl ty116 rfl rfl) ?_
    refine AList.nil ?_
    refine AWp.regionDraw 19 mixed (by kernel_rfl) (by decide) ?_
    refine AQuiet.cons 15 rfl rfl rfl (OpJ.move rfl rfl) ?_
    refine AQuiet.cons 16 rfl rfl rfl (OpJ.indexArr rfl rfl rfl ar116 el116 (by omega) (by omega) rfl) ?_
    refine AQuiet.cons 17 rfl rfl rfl (OpJ.load rfl rfl ty3 rfl) ?_
    refine AQuiet.cons 18 rfl rfl rfl (OpJ.indexArr rfl rfl rfl ar116 el116 (by omega) (by omega) rfl) ?_
    refine AQuiet.cons 19 rfl rfl rfl (OpJ.load rfl rfl ty3 rfl) ?_
    refine AQuiet.cons 20 rfl rfl rfl (OpJ.callP (lspan_ok _ _) rfl rfl rfl rfl rf25) ?_
    refine AQuiet.cons 21 rfl rfl rfl (OpJ.indexArr rfl rfl rfl ar116 el116 (by omega) (by omega) rfl) ?_
    refine AQuiet.cons 22 rfl rfl rfl (OpJ.load rfl rfl ty3 rfl) ?_
    refine AQuiet.cons 23 rfl rfl rfl (OpJ.sub_ rfl rfl rfl (i64ok ?_)) ?_
    · omega
    refine AQuiet.cons 24 rfl rfl rfl (OpJ.indexArr rfl rfl rfl ar116 el116 (by omega) (by omega) rfl) ?_
    refine AQuiet.cons 25 rfl rfl rfl (OpJ.load rfl rfl ty3 rfl) ?_
    refine AQuiet.cons 26 rfl rfl rfl (OpJ.sub_ rfl rfl rfl (i64ok ?_)) ?_
    · omega
    refine AQuiet.cons 27 rfl rfl rfl (OpJ.callP (lspan_ok _ _) rfl rfl rfl rfl rf25) ?_
    refine AQuiet.cons 28 rfl rfl rfl (OpJ.indexArr rfl rfl rfl ar116 el116 (by omega) (by omega) rfl) ?_
    refine AQuiet.cons 29 rfl rfl rfl (OpJ.load rfl rfl ty3 rfl) ?_
    refine AQuiet.cons 30 rfl rfl rfl (OpJ.indexArr rfl rfl rfl ar116 el116 (by omega) (by omega) rfl) ?_
    refine AQuiet.cons 31 rfl rfl rfl (OpJ.load rfl rfl ty3 rfl) ?_
    refine AQuiet.cons 32 rfl rfl rfl (OpJ.buildR (v := .p (.agg (fourOne (fx i)).cellsN)) rfl bd28 rfl rfl rfl) ?_
    refine AQuiet.cons 33 rfl rfl rfl (OpJ.buildImm rfl slz39 (by decide) rfl rfl rfl) ?_
    refine AQuiet.nil ?_
    refine AList.c 34 rfl rfl rfl (OpJ.appendAcc rfl rfl rfl slz39 sl39 rfl ?_ rfl (by decide) rfl by28 (by decide) ?_) ?_
    · rw [List.length_map, flat_len (c := 11) (fun _ => rfl), List.length_map, List.length_take_of_le hg]; rfl
    · show (2 * (i + 1) + 192) * 104 ≤ 281474976710656; omega
    refine AList.c 2 rfl rfl rfl (OpJ.assign rfl rfl) ?_
    refine AList.nil ?_
    refine AWp.region ?_
    refine AList.c 35 rfl rfl rfl (OpJ.add rfl rfl rfl (i64ok ?_)) ?_
    · omega
    refine AList.c 11 rfl rfl rfl (OpJ.move rfl rfl) ?_
    refine AList.nil ?_
    refine ⟨i + 1, ?_, ?_, ?_⟩
    · omega
    · omega
    refine To.done [2] rfl (by repeat (first | exact Sub.nil | refine Sub.cons rfl ?_)) ?_
    show [Blk.row (renL _ (_ ++ _)) _] = [Blk.row _ _]
    rw [renL_app, renL_pure, List.take_succ_eq_append_getElem hk0, List.map_append, List.flatMap_append, List.map_append, fx_get i hk0]
    rfl
  · skip
    obtain rfl : i = 4 := by have h := of_decide_eq_false hc0; omega
    refine AWp.to (To.accD 2 0 4 rfl rfl (fun h => by cases h)) ?_
    refine AWp.to (To.wkS 2 rfl) ?_
    refine AWp.exit ?_
    refine AWp.seq ?_
    refine AWp.region ?_
    refine AList.c 36 rfl rfl rfl (OpJ.build rfl bd84 rfl rfl) ?_
    refine AList.c 37 rfl rfl rfl (OpJ.build rfl bd84 rfl rfl) ?_
    refine AList.c 38 rfl rfl rfl (OpJ.buildImm rfl slz22 (by decide) rfl rfl rfl) ?_
    refine AList.c 39 rfl rfl rfl (OpJ.move rfl rfl) ?_
    refine AList.c 0 rfl rfl rfl (OpJ.assign rfl rfl) ?_
    refine AList.c 1 rfl rfl rfl (OpJ.assign rfl rfl) ?_
    refine AList.nil ?_
    refine AWp.ret ?_
    exact Fin.many (xs := [curV fourC, ldsV fourL]) rfl (⟨_, _, rfl, rfl, ⟨_, _, rfl, rfl, rfl⟩⟩) rfl
theorem alive_ok  : Pure Try.prog 14 [] (.bool true) := by
  refine Pure.start (N := 93) Try.func14 rfl rfl (Nat.le_of_ble_eq_true rfl) ?_
  refine AWp.seq ?_
  refine AWp.region ?_
  refine AList.c 0 rfl rfl rfl (OpJ.assign rfl rfl) ?_
  refine AList.nil ?_
  refine AWp.seq ?_
  refine AWp.region ?_
  refine AList.c 16 rfl rfl rfl (OpJ.callP (sample_ok) rfl rfl rfl rfl rf24) ?_
  refine AList.c 15 rfl rfl rfl (OpJ.move rfl rfl) ?_
  refine AList.c 17 rfl rfl rfl (OpJ.extract rfl rfl rfl) ?_
  refine AList.c 18 rfl rfl rfl (OpJ.extract rfl rfl rfl) ?_
  refine AList.c 1 rfl rfl rfl (OpJ.allocOwn rfl zr28 rfl) ?_
  refine AList.c0 rfl rfl (OpJ.store rfl rfl rfl rfl rfl ty28 rfl rfl) ?_
  refine AList.c 2 rfl rfl rfl (OpJ.assign rfl rfl) ?_
  refine AList.nil ?_
  refine AWp.seq ?_
  refine AWp.regionDrawC 9 mixed (by kernel_rfl) (by decide) ?_
  refine AQuietC.cons 20 rfl rfl rfl (OpJ.callP (curve_ok) rfl rfl rfl rfl rf26) (fun _ => (OpJ.callP (curve_ok) rfl rfl rfl rfl rf26)) ?_
  refine AQuietC.cons 21 rfl rfl rfl (OpJ.load rfl rfl ty28 rfl) (fun _ => (OpJ.load rfl rfl ty28 rfl)) ?_
  refine AQuietC.cons 22 rfl rfl rfl (OpJ.callP (black_R curveL smpL (by decide) (by decide)) rfl rfl rfl rfl rf15) (fun _ => (OpJ.callP (black_R curveL smpL (by decide) (by decide)) rfl rfl rfl rfl rf15)) ?_
  refine AQuietC.cons 19 rfl rfl rfl (OpJ.move rfl rfl) (fun _ => (OpJ.move rfl rfl)) ?_
  refine AQuietC.cons 23 rfl rfl rfl (OpJ.extract rfl rfl rfl) (fun _ => (OpJ.extract rfl rfl rfl)) ?_
  refine AQuietC.cons 24 rfl rfl rfl (OpJ.extract rfl rfl rfl) (fun _ => (OpJ.extract rfl rfl rfl)) ?_
  refine AQuietC.lay 3 rfl rfl rfl (OpJ.allocOwn rfl zr25 rfl) ?_
  refine AQuietC.put rfl rfl (by decide) (OpJ.store rfl rfl rfl rfl rfl ty25 rfl rfl) rfl ?_
  refine AQuietC.cons 4 rfl rfl rfl (OpJ.assign rfl rfl) (fun _ => (OpJ.assign rfl rfl)) ?_
  refine AQuietC.nil ?_
  refine AList.nil ?_
  refine AWp.seq ?_
  rw [ex_black]
  refine AWp.regionDraw 9 mixed (by kernel_rfl) (by decide) ?_
  refine AQuiet.cons 26 rfl rfl rfl (OpJ.callP (curve_ok) rfl rfl rfl rfl rf26) ?_
  refine AQuiet.cons 27 rfl rfl rfl (OpJ.move rfl rfl) ?_
  refine AQuiet.cons 28 rfl rfl rfl (OpJ.load rfl rfl ty28 rfl) ?_
  refine AQuiet.cons 29 rfl rfl rfl (OpJ.callP (has_R curveL smpS smpL (by decide) (by decide) (by decide)) rfl rfl rfl rfl rf17) ?_
  refine AQuiet.cons 25 rfl rfl rfl (OpJ.move rfl rfl) ?_
  refine AQuiet.cons 30 rfl rfl rfl (OpJ.extract rfl rfl rfl) ?_
  refine AQuiet.cons 31 rfl rfl rfl (OpJ.extract rfl rfl rfl) ?_
  refine AQuiet.cons 5 rfl rfl rfl (OpJ.assign rfl rfl) ?_
  refine AQuiet.cons 6 rfl rfl rfl (OpJ.assign rfl rfl) ?_
  refine AQuiet.nil ?_
  refine AList.nil ?_
  refine AWp.seq ?_
  rw [ex_has]
  refine AWp.region ?_
  refine AList.c 33 rfl rfl rfl (OpJ.callP (four_ok) rfl rfl rfl rfl rf27) ?_
  refine AList.c 32 rfl rfl rfl (OpJ.move rfl rfl) ?_
  refine AList.c 34 rfl rfl rfl (OpJ.extract rfl rfl rfl) ?_
  refine AList.c 35 rfl rfl rfl (OpJ.extract rfl rfl rfl) ?_
  refine AList.c 7 rfl rfl rfl (OpJ.assign rfl rfl) ?_
  refine AList.c 8 rfl rfl rfl (OpJ.assign rfl rfl) ?_
  refine AList.nil ?_
  refine AWp.seq ?_
  refine AWp.region ?_
  refine AList.c 37 rfl rfl rfl (OpJ.move rfl rfl) ?_
  refine AList.c 38 rfl rfl rfl (OpJ.move rfl rfl) ?_
  refine AList.c 39 rfl rfl rfl (OpJ.buildImm rfl slz34 (by decide) rfl rfl rfl) ?_
  refine AList.c 40 rfl rfl rfl (OpJ.callP (ordered_R fourC fourL [0, 0, 0, 1] 5 (by decide) (by decide) (by decide) (by decide)) rfl rfl rfl rfl rf20) ?_
  refine AList.c 36 rfl rfl rfl (OpJ.move rfl rfl) ?_
  refine AList.c 41 rfl rfl rfl (OpJ.extract rfl rfl rfl) ?_
  refine AList.c 42 rfl rfl rfl (OpJ.extract rfl rfl rfl) ?_
  refine AList.c 43 rfl rfl rfl (OpJ.extract rfl rfl rfl) ?_
  refine AList.c 9 rfl rfl rfl (OpJ.assign rfl rfl) ?_
  refine AList.c 10 rfl rfl rfl (OpJ.assign rfl rfl) ?_
  refine AList.c 11 rfl rfl rfl (OpJ.assign rfl rfl) ?_
  refine AList.nil ?_
  refine AWp.seq ?_
  rw [ex_ord]
  refine AWp.region ?_
  refine AList.c 45 rfl rfl rfl (OpJ.move rfl rfl) ?_
  refine AList.c 46 rfl rfl rfl (OpJ.move rfl rfl) ?_
  refine AList.c 47 rfl rfl rfl (OpJ.build rfl bd41 rfl rfl) ?_
  refine AList.c 48 rfl rfl rfl (OpJ.callP (cut_R fourC fourL s4 (by decide) (by decide) (by decide)) rfl rfl rfl rfl rf22) ?_
  refine AList.c 44 rfl rfl rfl (OpJ.move rfl rfl) ?_
  refine AList.c 49 rfl rfl rfl (OpJ.extract rfl rfl rfl) ?_
  refine AList.c 50 rfl rfl rfl (OpJ.extract rfl rfl rfl) ?_
  refine AList.c 51 rfl rfl rfl (OpJ.extract rfl rfl rfl) ?_
  refine AList.c 12 rfl rfl rfl (OpJ.assign rfl rfl) ?_
  refine AList.c 13 rfl rfl rfl (OpJ.assign rfl rfl) ?_
  refine AList.c 14 rfl rfl rfl (OpJ.assign rfl rfl) ?_
  refine AList.nil ?_
  refine AWp.seq ?_
  rw [ex_cut]
  refine AWp.regionDraw 42 mixed (by kernel_rfl) (by decide) ?_
  refine AQuiet.cons 52 rfl rfl rfl (OpJ.load rfl rfl ty25 rfl) ?_
  refine AQuiet.cons 53 rfl rfl rfl (OpJ.callP (lspan_ok _ _) rfl rfl rfl rfl rf25) ?_
  refine AQuiet.cons 54 rfl rfl rfl (OpJ.eqAgg (d := 8) rfl (.inl rfl) rfl rfl (by decide) eq25 ty25 rfl eg25 rfl) ?_
  refine AQuiet.cons 55 rfl rfl rfl (OpJ.move rfl rfl) ?_
  refine AQuiet.guard 56 55 rfl rfl rfl rfl rfl rfl rfl [(4, _)] (fun h => And.intro (.inl rfl) (trivial)) (fun h => (OpJ.move rfl rfl)) ?_
  refine AQuiet.guard 57 55 rfl rfl rfl rfl rfl rfl rfl [(56, _)] (fun h => And.intro (.inr ⟨_, rfl, h⟩) (trivial)) (fun h => (OpJ.eql rfl rfl rfl)) ?_
  refine AQuiet.cons 58 rfl rfl rfl (OpJ.and_ rfl rfl rfl ?_) ?_
  · first | (intro h; rw [h]; rfl) | (intro h; simp_all)
  refine AQuiet.cons 59 rfl rfl rfl (OpJ.move rfl rfl) ?_
  refine AQuiet.guard 60 59 rfl rfl rfl rfl rfl rfl rfl [(5, _)] (fun h => And.intro (.inl rfl) (trivial)) (fun h => (OpJ.move rfl rfl)) ?_
  refine AQuiet.guard 61 59 rfl rfl rfl rfl rfl rfl rfl [] (fun h => trivial) (fun h => (OpJ.buildImm rfl slz34 (by decide) rfl rfl rfl)) ?_
  refine AQuiet.guard 62 59 rfl rfl rfl rfl rfl rfl rfl [(60, _), (61, _)] (fun h => And.intro (.inr ⟨_, rfl, h⟩) (And.intro (.inr ⟨_, rfl, h⟩) (trivial))) (fun h => (OpJ.callP (ints_ok [1] [1] (by decide) (by decide)) rfl rfl rfl rfl rf19)) ?_
  refine AQuiet.cons 63 rfl rfl rfl (OpJ.and_ rfl rfl rfl ?_) ?_
  · first | (intro h; rw [h]; rfl) | (intro h; simp_all)
  refine AQuiet.cons 64 rfl rfl rfl (OpJ.move rfl rfl) ?_
  refine AQuiet.guard 65 64 rfl rfl rfl rfl rfl rfl rfl [(6, _)] (fun h => And.intro (.inl rfl) (trivial)) (fun h => (OpJ.move rfl rfl)) ?_
  refine AQuiet.guard 66 64 rfl rfl rfl rfl rfl rfl rfl [(65, _)] (fun h => And.intro (.inr ⟨_, rfl, h⟩) (trivial)) (fun h => (OpJ.eql rfl rfl rfl)) ?_
  refine AQuiet.cons 67 rfl rfl rfl (OpJ.and_ rfl rfl rfl ?_) ?_
  · first | (intro h; rw [h]; rfl) | (intro h; simp_all)
  refine AQuiet.cons 68 rfl rfl rfl (OpJ.move rfl rfl) ?_
  refine AQuiet.guard 69 68 rfl rfl rfl rfl rfl rfl rfl [(9, _)] (fun h => And.intro (.inl rfl) (trivial)) (fun h => (OpJ.move rfl rfl)) ?_
  refine AQuiet.guard 70 68 rfl rfl rfl rfl rfl rfl rfl [(69, _)] (fun h => And.intro (.inr ⟨_, rfl, h⟩) (trivial)) (fun h => (OpJ.eql rfl rfl rfl)) ?_
  refine AQuiet.cons 71 rfl rfl rfl (OpJ.and_ rfl rfl rfl ?_) ?_
  · first | (intro h; rw [h]; rfl) | (intro h; simp_all)
  refine AQuiet.cons 72 rfl rfl rfl (OpJ.move rfl rfl) ?_
  refine AQuiet.guard 73 72 rfl rfl rfl rfl rfl rfl rfl [(10, _)] (fun h => And.intro (.inl rfl) (trivial)) (fun h => (OpJ.move rfl rfl)) ?_
  refine AQuiet.guard 74 72 rfl rfl rfl rfl rfl rfl rfl [(73, _)] (fun h => And.intro (.inr ⟨_, rfl, h⟩) (trivial)) (fun h => (OpJ.eql rfl rfl rfl)) ?_
  refine AQuiet.cons 75 rfl rfl rfl (OpJ.and_ rfl rfl rfl ?_) ?_
  · first | (intro h; rw [h]; rfl) | (intro h; simp_all)
  refine AQuiet.cons 76 rfl rfl rfl (OpJ.move rfl rfl) ?_
  refine AQuiet.guard 77 76 rfl rfl rfl rfl rfl rfl rfl [(11, _)] (fun h => And.intro (.inl rfl) (trivial)) (fun h => (OpJ.move rfl rfl)) ?_
  refine AQuiet.guard 78 76 rfl rfl rfl rfl rfl rfl rfl [(77, _)] (fun h => And.intro (.inr ⟨_, rfl, h⟩) (trivial)) (fun h => (OpJ.eql rfl rfl rfl)) ?_
  refine AQuiet.cons 79 rfl rfl rfl (OpJ.and_ rfl rfl rfl ?_) ?_
  · first | (intro h; rw [h]; rfl) | (intro h; simp_all)
  refine AQuiet.cons 80 rfl rfl rfl (OpJ.move rfl rfl) ?_
  refine AQuiet.guard 81 80 rfl rfl rfl rfl rfl rfl rfl [(12, _)] (fun h => And.intro (.inl rfl) (trivial)) (fun h => (OpJ.move rfl rfl)) ?_
  refine AQuiet.guard 82 80 rfl rfl rfl rfl rfl rfl rfl [] (fun h => trivial) (fun h => (OpJ.buildImm rfl slz34 (by decide) rfl rfl rfl)) ?_
  refine AQuiet.guard 83 80 rfl rfl rfl rfl rfl rfl rfl [(81, _), (82, _)] (fun h => And.intro (.inr ⟨_, rfl, h⟩) (And.intro (.inr ⟨_, rfl, h⟩) (trivial))) (fun h => (OpJ.callP (ints_ok [0, 45, 100] [0, 45, 100] (by decide) (by decide)) rfl rfl rfl rfl rf19)) ?_
  refine AQuiet.cons 84 rfl rfl rfl (OpJ.and_ rfl rfl rfl ?_) ?_
  · first | (intro h; rw [h]; rfl) | (intro h; simp_all)
  refine AQuiet.cons 85 rfl rfl rfl (OpJ.move rfl rfl) ?_
  refine AQuiet.guard 86 85 rfl rfl rfl rfl rfl rfl rfl [(13, _)] (fun h => And.intro (.inl rfl) (trivial)) (fun h => (OpJ.move rfl rfl)) ?_
  refine AQuiet.guard 87 85 rfl rfl rfl rfl rfl rfl rfl [(86, _)] (fun h => And.intro (.inr ⟨_, rfl, h⟩) (trivial)) (fun h => (OpJ.eql rfl rfl rfl)) ?_
  refine AQuiet.cons 88 rfl rfl rfl (OpJ.and_ rfl rfl rfl ?_) ?_
  · first | (intro h; rw [h]; rfl) | (intro h; simp_all)
  refine AQuiet.cons 89 rfl rfl rfl (OpJ.move rfl rfl) ?_
  refine AQuiet.guard 90 89 rfl rfl rfl rfl rfl rfl rfl [(14, _)] (fun h => And.intro (.inl rfl) (trivial)) (fun h => (OpJ.move rfl rfl)) ?_
  refine AQuiet.guard 91 89 rfl rfl rfl rfl rfl rfl rfl [(90, _)] (fun h => And.intro (.inr ⟨_, rfl, h⟩) (trivial)) (fun h => (OpJ.eql rfl rfl rfl)) ?_
  refine AQuiet.cons 92 rfl rfl rfl (OpJ.and_ rfl rfl rfl ?_) ?_
  · first | (intro h; rw [h]; rfl) | (intro h; simp_all)
  refine AQuiet.cons 0 rfl rfl rfl (OpJ.assign rfl rfl) ?_
  refine AQuiet.nil ?_
  refine AList.nil ?_
  refine AWp.ret ?_
  exact Fin.oneE rfl rfl rfl
end Go.Proofs.Ythiapodcippnoaa
