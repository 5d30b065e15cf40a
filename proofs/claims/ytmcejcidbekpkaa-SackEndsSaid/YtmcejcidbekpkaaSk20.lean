/-
  The truth by remainders; what there is of a kind.
-/
import Derived.Test.YtmcejcidbekpkaaSkFactsC
import Derived.Test.YtmcejcidbekpkaaSk18
import Derived.Test.YtmcejcidbekpkaaSkT
set_option linter.unusedVariables false
set_option maxRecDepth 100000
set_option maxHeartbeats 4000000
set_option linter.unusedSimpArgs false
namespace Go.Proofs.Ytmcejcidbekpkaa
open Go.AF
theorem truth_ok (l : List Sk) (b : List Tk) (ys : List Int) (hl : okL l) (hb : okB b) (hy : okY ys) (hyl : ys.length ≤ 9223372036854775807) : Pure Try.prog 21 [sacksV l, takesV b, .is (ys.flatMap y1) ys.length] (.tuple [.is ((trueL l ys l.length).flatMap Cn.cells) l.length, .is ((trueM b ys b.length).flatMap m1) b.length]) := by
  have hl8 := hl.1
  have hb8 := hb.1
  have hy0 := hy.1
  refine Pure.start (N := 92) Try.func21 rfl rfl (Nat.le_of_ble_eq_true rfl) ?_
  refine AWp.seq ?_
  refine AWp.region ?_
  refine AList.c 6 rfl rfl rfl (OpJ.assign rfl rfl) ?_
  refine AList.c 7 rfl rfl rfl (OpJ.assign rfl rfl) ?_
  refine AList.nil ?_
  refine AWp.seq ?_
  refine AWp.region ?_
  refine AList.c 8 rfl rfl rfl (OpJ.assign rfl rfl) ?_
  refine AList.nil ?_
  refine AWp.seq ?_
  refine AWp.region ?_
  refine AList.c 9 rfl rfl rfl (OpJ.assign rfl rfl) ?_
  refine AList.nil ?_
  refine AWp.seq ?_
  refine AWp.seq ?_
  refine AWp.region ?_
  refine AList.c 10 rfl rfl rfl (OpJ.assign rfl rfl) ?_
  refine AList.nil ?_
  refine AWp.block ?_
  refine AWp.loopH [8, 10, 12, 13, 14, 15, 16, 17, 18, 19, 20, 21, 22, 23, 24, 25, 26, 27, 28, 29, 30, 31, 32, 33, 34, 35, 36, 37, 38, 39, 40, 41, 42, 43, 44, 45, 46, 47, 48, 49, 50, 51, 52, 53, 54, 55, 56, 57, 58, 59, 60, 61, 62, 63, 64, 65] (fun g => [(10, .p (.int .i64 ((g : Nat) : Int))), (8, accV 0 g)]) (fun g => [accB (((trueL l ys g).flatMap Cn.cells).map .p) 88 g]) (fun g => g ≤ l.length) (fun g => l.length - g) 0 (by omega) (To.pad.trans (To.sub (Sub.chd (Sub.cons rfl (Sub.cons rfl Sub.nil))))) (fun i hg => ?_)
  refine AWp.seq ?_
  refine AWp.seq ?_
  refine AWp.region ?_
  refine AList.c 12 rfl rfl rfl (OpJ.move rfl rfl) ?_
  refine AList.c 13 rfl rfl rfl (OpJ.move rfl rfl) ?_
  refine AList.c 14 rfl rfl rfl (OpJ.lenSlice rfl rfl sl22 rfl) ?_
  refine AList.c 15 rfl rfl rfl (OpJ.lss rfl rfl rfl) ?_
  refine AList.nil ?_
  refine AWp.cond _ rfl (fun hc0 => ?_) (fun hc0 => ?_)
  · skip
    have hk0 : i < l.length := by simp at hc0; omega
    have hs := hl.2 l[i] (List.getElem_mem _)
    unfold okSk at hs
    have e1 : l[i]?.getD zeroSk = l[i] := by rw [List.getElem?_eq_getElem hk0, Option.getD_some]
    have ey1 := yAt_get hy (3 * i) (Nat.mod_lt _ hy.1)
    have ey2 := yAt_get hy (3 * i + 1) (Nat.mod_lt _ hy.1)
    have ey3 := yAt_get hy (3 * i + 2) (Nat.mod_lt _ hy.1)
    refine AWp.skip ?_
    refine AWp.seq ?_
    refine AWp.block ?_
    refine AWp.regionDraw 47 mixed (by kernel_rfl) (by decide) ?_
    refine AQuiet.cons 18 rfl rfl rfl (OpJ.move rfl rfl) ?_
    refine AQuiet.cons 19 rfl rfl rfl (OpJ.move rfl rfl) ?_
    refine AQuiet.cons 20 rfl rfl rfl (OpJ.move rfl rfl) ?_
    refine AQuiet.cons 21 rfl rfl rfl (OpJ.indexEl rfl rfl rfl sl22 el22 rfl (fun _ => rfl) (by decide) hk0) ?_
    refine AQuiet.cons 22 rfl rfl rfl (OpJ.fieldAddr rfl rfl fd57_0 rfl) ?_
    refine AQuiet.cons 23 rfl rfl rfl (OpJ.load rfl rfl ty25 rfl) ?_
    refine AQuiet.cons 24 rfl rfl rfl (OpJ.move rfl rfl) ?_
    refine AQuiet.cons 25 rfl rfl rfl (OpJ.move rfl rfl) ?_
    refine AQuiet.cons 26 rfl rfl rfl (OpJ.mul (m := ((3 * i : Nat) : Int)) rfl rfl rfl ((i64ok ?_).trans ?_)) ?_
    · omega
    · omega
    refine AQuiet.cons 27 rfl rfl rfl (OpJ.move rfl rfl) ?_
    refine AQuiet.cons 28 rfl rfl rfl (OpJ.lenSlice rfl rfl sl39 rfl) ?_
    refine AQuiet.cons 29 rfl rfl rfl (OpJ.rem (m := ((3 * i % ys.length : Nat) : Int)) rfl rfl rfl ?_ ?_) ?_
    · omega
    · exact tmodN _ _
    refine AQuiet.cons 30 rfl rfl rfl (OpJ.indexEl rfl rfl rfl sl39 el39 rfl (fun _ => rfl) (by decide) (Nat.mod_lt _ hy.1)) ?_
    refine AQuiet.cons 31 rfl rfl rfl (OpJ.load rfl rfl ty54 rfl) ?_
    refine AQuiet.cons 32 rfl rfl rfl (OpJ.callP (pick_ok _ _ _ ?_ ?_) rfl rfl rfl rfl rf61) ?_
    · omega
    · exact hy.2 _ (List.getElem_mem _)
    refine AQuiet.cons 33 rfl rfl rfl (OpJ.move rfl rfl) ?_
    refine AQuiet.cons 34 rfl rfl rfl (OpJ.move rfl rfl) ?_
    refine AQuiet.cons 35 rfl rfl rfl (OpJ.indexEl rfl rfl rfl sl22 el22 rfl (fun _ => rfl) (by decide) hk0) ?_
    refine AQuiet.cons 36 rfl rfl rfl (OpJ.fieldAddr rfl rfl fd57_1 rfl) ?_
    refine AQuiet.cons 37 rfl rfl rfl (OpJ.load rfl rfl ty25 rfl) ?_
    refine AQuiet.cons 38 rfl rfl rfl (OpJ.move rfl rfl) ?_
    refine AQuiet.cons 39 rfl rfl rfl (OpJ.move rfl rfl) ?_
    refine AQuiet.cons 40 rfl rfl rfl (OpJ.mul (m := ((3 * i : Nat) : Int)) rfl rfl rfl ((i64ok ?_).trans ?_)) ?_
    · omega
    · omega
    refine AQuiet.cons 41 rfl rfl rfl (OpJ.add (m := ((3 * i + 1 : Nat) : Int)) rfl rfl rfl ((i64ok ?_).trans ?_)) ?_
    · omega
    · omega
    refine AQuiet.cons 42 rfl rfl rfl (OpJ.move rfl rfl) ?_
    refine AQuiet.cons 43 rfl rfl rfl (OpJ.lenSlice rfl rfl sl39 rfl) ?_
    refine AQuiet.cons 44 rfl rfl rfl (OpJ.rem (m := (((3 * i + 1) % ys.length : Nat) : Int)) rfl rfl rfl ?_ ?_) ?_
    · omega
    · exact tmodN _ _
    refine AQuiet.cons 45 rfl rfl rfl (OpJ.indexEl rfl rfl rfl sl39 el39 rfl (fun _ => rfl) (by decide) (Nat.mod_lt _ hy.1)) ?_
    refine AQuiet.cons 46 rfl rfl rfl (OpJ.load rfl rfl ty54 rfl) ?_
    refine AQuiet.cons 47 rfl rfl rfl (OpJ.callP (pick_ok _ _ _ ?_ ?_) rfl rfl rfl rfl rf61) ?_
    · omega
    · exact hy.2 _ (List.getElem_mem _)
    refine AQuiet.cons 48 rfl rfl rfl (OpJ.move rfl rfl) ?_
    refine AQuiet.cons 49 rfl rfl rfl (OpJ.move rfl rfl) ?_
    refine AQuiet.cons 50 rfl rfl rfl (OpJ.indexEl rfl rfl rfl sl22 el22 rfl (fun _ => rfl) (by decide) hk0) ?_
    refine AQuiet.cons 51 rfl rfl rfl (OpJ.fieldAddr rfl rfl fd57_2 rfl) ?_
    refine AQuiet.cons 52 rfl rfl rfl (OpJ.load rfl rfl ty25 rfl) ?_
    refine AQuiet.cons 53 rfl rfl rfl (OpJ.move rfl rfl) ?_
    refine AQuiet.cons 54 rfl rfl rfl (OpJ.move rfl rfl) ?_
    refine AQuiet.cons 55 rfl rfl rfl (OpJ.mul (m := ((3 * i : Nat) : Int)) rfl rfl rfl ((i64ok ?_).trans ?_)) ?_
    · omega
    · omega
    refine AQuiet.cons 56 rfl rfl rfl (OpJ.add (m := ((3 * i + 2 : Nat) : Int)) rfl rfl rfl ((i64ok ?_).trans ?_)) ?_
    · omega
    · omega
    refine AQuiet.cons 57 rfl rfl rfl (OpJ.move rfl rfl) ?_
    refine AQuiet.cons 58 rfl rfl rfl (OpJ.lenSlice rfl rfl sl39 rfl) ?_
    refine AQuiet.cons 59 rfl rfl rfl (OpJ.rem (m := (((3 * i + 2) % ys.length : Nat) : Int)) rfl rfl rfl ?_ ?_) ?_
    · omega
    · exact tmodN _ _
    refine AQuiet.cons 60 rfl rfl rfl (OpJ.indexEl rfl rfl rfl sl39 el39 rfl (fun _ => rfl) (by decide) (Nat.mod_lt _ hy.1)) ?_
    refine AQuiet.cons 61 rfl rfl rfl (OpJ.load rfl rfl ty54 rfl) ?_
    refine AQuiet.cons 62 rfl rfl rfl (OpJ.callP (pick_ok _ _ _ ?_ ?_) rfl rfl rfl rfl rf61) ?_
    · omega
    · exact hy.2 _ (List.getElem_mem _)
    refine AQuiet.cons 63 rfl rfl rfl (OpJ.build rfl bd88 rfl rfl) ?_
    refine AQuiet.cons 64 rfl rfl rfl (OpJ.buildImm rfl slz41 (by decide) rfl rfl rfl) ?_
    refine AQuiet.nil ?_
    refine AList.c 65 rfl rfl rfl (OpJ.appendAcc rfl rfl rfl slz41 sl41 rfl ?_ rfl (by decide) rfl by88 (by decide) ?_) ?_
    · rw [List.length_map, flat_len (c := 3) (fun _ => rfl), trueL_length]; rfl
    · omega
    refine AList.c 8 rfl rfl rfl (OpJ.assign rfl rfl) ?_
    refine AList.nil ?_
    refine AWp.region ?_
    refine AList.c 16 rfl rfl rfl (OpJ.move rfl rfl) ?_
    refine AList.c 17 rfl rfl rfl (OpJ.add rfl rfl rfl (i64ok ?_)) ?_
    · omega
    refine AList.c 10 rfl rfl rfl (OpJ.assign rfl rfl) ?_
    refine AList.nil ?_
    refine ⟨i + 1, ?_, ?_, ?_⟩
    · omega
    · omega
    refine To.done [1] rfl (by repeat (first | exact Sub.nil | refine Sub.cons rfl ?_)) ?_
    show [Blk.row (renL _ (_ ++ _)) _] = [Blk.row _ _]
    rw [renL_app, renL_pure, trueL_succ, List.flatMap_append, List.map_append]
    simp only [List.flatMap_cons, List.flatMap_nil, List.append_nil, tCn, Cn.cells, tp, e1, ey1, ey2, ey3, List.map_cons, List.map_nil, renL, renV]
  · skip
    obtain rfl : i = l.length := by simp at hc0; omega
    refine AWp.to (To.acc 8 0 l.length rfl rfl (fun h => by rw [h]; rfl)) ?_
    refine AWp.ded ?_
    refine AWp.exit ?_
    refine AWp.seq ?_
    refine AWp.seq ?_
    refine AWp.region ?_
    refine AList.c 11 rfl rfl rfl (OpJ.assign rfl rfl) ?_
    refine AList.nil ?_
    refine AWp.block ?_
    refine AWp.loopH [9, 11, 66, 67, 68, 69, 70, 71, 72, 73, 74, 75, 76, 77, 78, 79, 80, 81, 82, 83, 84, 85, 86, 87, 88, 89] (fun g => [(11, .p (.int .i64 ((g : Nat) : Int))), (9, accV 0 g)]) (fun g => [accB (((trueM b ys g).flatMap m1).map .p) 3 g]) (fun g => g ≤ b.length) (fun g => b.length - g) 0 (by omega) (To.sub (Sub.chd (Sub.cons rfl (Sub.cons rfl Sub.nil)))) (fun i hg => ?_)
    refine AWp.seq ?_
    refine AWp.seq ?_
    refine AWp.region ?_
    refine AList.c 66 rfl rfl rfl (OpJ.move rfl rfl) ?_
    refine AList.c 67 rfl rfl rfl (OpJ.move rfl rfl) ?_
    refine AList.c 68 rfl rfl rfl (OpJ.lenSlice rfl rfl sl23 rfl) ?_
    refine AList.c 69 rfl rfl rfl (OpJ.lss rfl rfl rfl) ?_
    refine AList.nil ?_
    refine AWp.cond _ rfl (fun hc1 => ?_) (fun hc1 => ?_)
    · skip
      have hk0 : i < b.length := by simp at hc1; omega
      have ht := hb.2 b[i] (List.getElem_mem _)
      have e2 := bAt_get hk0
      have ey4 := yAt_get hy (5 * i + 2) (Nat.mod_lt _ hy.1)
      refine AWp.skip ?_
      refine AWp.seq ?_
      refine AWp.block ?_
      refine AWp.regionDraw 17 mixed (by kernel_rfl) (by decide) ?_
      refine AQuiet.cons 72 rfl rfl rfl (OpJ.move rfl rfl) ?_
      refine AQuiet.cons 73 rfl rfl rfl (OpJ.move rfl rfl) ?_
      refine AQuiet.cons 74 rfl rfl rfl (OpJ.move rfl rfl) ?_
      refine AQuiet.cons 75 rfl rfl rfl (OpJ.indexEl rfl rfl rfl sl23 el23 rfl (fun _ => rfl) (by decide) hk0) ?_
      refine AQuiet.cons 76 rfl rfl rfl (OpJ.fieldAddr rfl rfl fd51_1 rfl) ?_
      refine AQuiet.cons 77 rfl rfl rfl (OpJ.load rfl rfl ty25 rfl) ?_
      refine AQuiet.cons 78 rfl rfl rfl (OpJ.move rfl rfl) ?_
      refine AQuiet.cons 79 rfl rfl rfl (OpJ.move rfl rfl) ?_
      refine AQuiet.cons 80 rfl rfl rfl (OpJ.mul (m := ((5 * i : Nat) : Int)) rfl rfl rfl ((i64ok ?_).trans ?_)) ?_
      · omega
      · omega
      refine AQuiet.cons 81 rfl rfl rfl (OpJ.add (m := ((5 * i + 2 : Nat) : Int)) rfl rfl rfl ((i64ok ?_).trans ?_)) ?_
      · omega
      · omega
      refine AQuiet.cons 82 rfl rfl rfl (OpJ.move rfl rfl) ?_
      refine AQuiet.cons 83 rfl rfl rfl (OpJ.lenSlice rfl rfl sl39 rfl) ?_
      refine AQuiet.cons 84 rfl rfl rfl (OpJ.rem (m := (((5 * i + 2) % ys.length : Nat) : Int)) rfl rfl rfl ?_ ?_) ?_
      · omega
      · exact tmodN _ _
      refine AQuiet.cons 85 rfl rfl rfl (OpJ.indexEl rfl rfl rfl sl39 el39 rfl (fun _ => rfl) (by decide) (Nat.mod_lt _ hy.1)) ?_
      refine AQuiet.cons 86 rfl rfl rfl (OpJ.load rfl rfl ty54 rfl) ?_
      refine AQuiet.cons 87 rfl rfl rfl (OpJ.callP (pick_ok _ _ _ ?_ ?_) rfl rfl rfl rfl rf61) ?_
      · omega
      · exact hy.2 _ (List.getElem_mem _)
      refine AQuiet.cons 88 rfl rfl rfl (OpJ.buildImm rfl slz42 (by decide) rfl rfl rfl) ?_
      refine AQuiet.nil ?_
      refine AList.c 89 rfl rfl rfl (OpJ.appendAcc rfl rfl rfl slz42 sl42 rfl ?_ rfl (by decide) rfl by3 (by decide) ?_) ?_
      · rw [List.length_map, flat_len (c := 1) (fun _ => rfl), trueM_length]; rfl
      · omega
      refine AList.c 9 rfl rfl rfl (OpJ.assign rfl rfl) ?_
      refine AList.nil ?_
      refine AWp.region ?_
      refine AList.c 70 rfl rfl rfl (OpJ.move rfl rfl) ?_
      refine AList.c 71 rfl rfl rfl (OpJ.add rfl rfl rfl (i64ok ?_)) ?_
      · omega
      refine AList.c 11 rfl rfl rfl (OpJ.assign rfl rfl) ?_
      refine AList.nil ?_
      refine ⟨i + 1, ?_, ?_, ?_⟩
      · omega
      · omega
      refine To.done [1] rfl (by repeat (first | exact Sub.nil | refine Sub.cons rfl ?_)) ?_
      show [Blk.row (renL _ (_ ++ _)) _] = [Blk.row _ _]
      rw [renL_app, renL_pure, trueM_succ, List.flatMap_append, List.map_append]
      simp only [List.flatMap_cons, List.flatMap_nil, List.append_nil, tMn, m1, tp, e2, ey4, List.map_cons, List.map_nil, renL, renV]
    · skip
      obtain rfl : i = b.length := by simp at hc1; omega
      refine AWp.to (To.acc 9 0 b.length rfl rfl (fun h => by rw [h]; rfl)) ?_
      refine AWp.ded ?_
      refine AWp.exit ?_
      refine AWp.seq ?_
      refine AWp.region ?_
      refine AList.c 90 rfl rfl rfl (OpJ.move rfl rfl) ?_
      refine AList.c 91 rfl rfl rfl (OpJ.move rfl rfl) ?_
      refine AList.c 6 rfl rfl rfl (OpJ.assign rfl rfl) ?_
      refine AList.c 7 rfl rfl rfl (OpJ.assign rfl rfl) ?_
      refine AList.nil ?_
      refine AWp.ret ?_
      exact Fin.many (xs := [.is ((trueL l ys l.length).flatMap Cn.cells) l.length, .is ((trueM b ys b.length).flatMap m1) b.length]) rfl (⟨_, _, rfl, rfl, ⟨_, _, rfl, rfl, rfl⟩⟩) rfl
theorem all_ok (l : List Sk) (b : List Tk) (xs : List Cn) (ms : List Int) (kd : Int) (hk : 0 ≤ kd ∧ kd ≤ 4) (hl : okL l) (hb : okB b) (ht : okT l.length b) (T : Truth l b xs ms) : Pure Try.prog 22 [takesV b, .is (xs.flatMap Cn.cells) l.length, .is (ms.flatMap m1) b.length, .int .i64 kd] (.int .i64 (allS (ofF kd) b xs ms b.length)) := by
  have hb8 := hb.1
  have hlx := T.lx
  have hlm := T.lm
  refine Pure.start (N := 42) Try.func22 rfl rfl (Nat.le_of_ble_eq_true rfl) ?_
  refine AWp.seq ?_
  refine AWp.region ?_
  refine AList.c 8 rfl rfl rfl (OpJ.assign rfl rfl) ?_
  refine AList.nil ?_
  refine AWp.seq ?_
  refine AWp.region ?_
  refine AList.c 9 rfl rfl rfl (OpJ.assign rfl rfl) ?_
  refine AList.nil ?_
  refine AWp.seq ?_
  refine AWp.seq ?_
  refine AWp.region ?_
  refine AList.c 10 rfl rfl rfl (OpJ.assign rfl rfl) ?_
  refine AList.nil ?_
  refine AWp.block ?_
  refine AWp.loopK [9, 10, 11, 12, 13, 14, 15, 16, 17, 18, 19, 20, 21, 22, 23, 24, 25, 26, 27, 28, 29, 30, 31, 32, 33, 34, 35, 36, 37, 38, 39, 40] (fun g => [(10, .p (.int .i64 ((g : Nat) : Int))), (9, .p (.int .i64 (allS (ofF kd) b xs ms g)))]) (fun g => g ≤ b.length) (fun g => b.length - g) 0 (Nat.zero_le _) (Sub.cons rfl (Sub.cons rfl (Sub.nil))) (fun i hg => ?_)
  have p1 := allS_B hl hb ht T kd i hg
  refine AWp.seq ?_
  refine AWp.seq ?_
  refine AWp.region ?_
  refine AList.c 12 rfl rfl rfl (OpJ.move rfl rfl) ?_
  refine AList.c 13 rfl rfl rfl (OpJ.move rfl rfl) ?_
  refine AList.c 14 rfl rfl rfl (OpJ.lenSlice rfl rfl sl23 rfl) ?_
  refine AList.c 15 rfl rfl rfl (OpJ.lss rfl rfl rfl) ?_
  refine AList.nil ?_
  refine AWp.cond _ rfl (fun hc0 => ?_) (fun hc0 => ?_)
  · skip
    have hk0 : i < b.length := by simp at hc0; omega
    have hti := ht b[i] (List.getElem_mem _)
    have eb := bAt_get hk0
    have hx0 : b[i].s.toNat < xs.length := by omega
    have hm0 : i < ms.length := by omega
    have ex : xAt xs b[i].s.toNat = xs[b[i].s.toNat] := by unfold xAt; rw [List.getElem?_eq_getElem hx0, Option.getD_some]
    have em : mAt ms i = ms[i] := by unfold mAt; rw [List.getElem?_eq_getElem hm0, Option.getD_some]
    have tb := term_B hl hb ht T kd hk0
    rw [eb, ex, em] at tb
    have hok := T.okSt hl (k := b[i].s.toNat) (by omega)
    rw [ex] at hok
    have hmb := T.m_B hb hk0
    have hof := ofB (k := kd) hok
    refine AWp.skip ?_
    refine AWp.seq ?_
    refine AWp.block ?_
    refine AWp.seq ?_
    refine AWp.region ?_
    refine AList.c 18 rfl rfl rfl (OpJ.move rfl rfl) ?_
    refine AList.c 19 rfl rfl rfl (OpJ.move rfl rfl) ?_
    refine AList.c 20 rfl rfl rfl (OpJ.move rfl rfl) ?_
    refine AList.c 21 rfl rfl rfl (OpJ.indexEl rfl rfl rfl sl23 el23 rfl (fun _ => rfl) (by decide) hk0) ?_
    refine AList.c 22 rfl rfl rfl (OpJ.fieldAddr rfl rfl fd51_0 rfl) ?_
    refine AList.c 23 rfl rfl rfl (OpJ.load rfl rfl ty3 rfl) ?_
    refine AList.c 24 rfl rfl rfl (OpJ.indexElI rfl rfl rfl sl41 el41 T.lx.symm (fun _ => rfl) (by decide) ?_ ?_) ?_
    · omega
    · omega
    refine AList.c 25 rfl rfl rfl (OpJ.load rfl rfl ty88 rfl) ?_
    refine AList.c 11 rfl rfl rfl (OpJ.allocOwn rfl zr88 rfl) ?_
    refine AList.c0 rfl rfl (OpJ.store rfl rfl rfl rfl rfl ty88 rfl rfl) ?_
    refine AList.nil ?_
    refine AWp.regionDraw 16 mixed (by kernel_rfl) (by decide) ?_
    refine AQuiet.cons 26 rfl rfl rfl (OpJ.move rfl rfl) ?_
    refine AQuiet.cons 27 rfl rfl rfl (OpJ.move rfl rfl) ?_
    refine AQuiet.cons 28 rfl rfl rfl (OpJ.move rfl rfl) ?_
    refine AQuiet.cons 29 rfl rfl rfl (OpJ.indexEl rfl rfl rfl sl42 el42 T.lm.symm (fun _ => rfl) (by decide) hm0) ?_
    refine AQuiet.cons 30 rfl rfl rfl (OpJ.load rfl rfl ty3 rfl) ?_
    refine AQuiet.cons 31 rfl rfl rfl (OpJ.move rfl rfl) ?_
    refine AQuiet.cons 32 rfl rfl rfl (OpJ.fieldAddr rfl rfl fd88_0 rfl) ?_
    refine AQuiet.cons 33 rfl rfl rfl (OpJ.load rfl rfl ty3 rfl) ?_
    refine AQuiet.cons 34 rfl rfl rfl (OpJ.fieldAddr rfl rfl fd88_1 rfl) ?_
    refine AQuiet.cons 35 rfl rfl rfl (OpJ.load rfl rfl ty3 rfl) ?_
    refine AQuiet.cons 36 rfl rfl rfl (OpJ.fieldAddr rfl rfl fd88_2 rfl) ?_
    refine AQuiet.cons 37 rfl rfl rfl (OpJ.load rfl rfl ty3 rfl) ?_
    refine AQuiet.cons 38 rfl rfl rfl (OpJ.callP (rOf_ok _ _ _ _ hk hok) rfl rfl rfl rfl rf62) ?_
    refine AQuiet.cons 39 rfl rfl rfl (OpJ.mul rfl rfl rfl (i64ok ?_)) ?_
    · omega
    refine AQuiet.cons 40 rfl rfl rfl (OpJ.add rfl rfl rfl (i64ok ?_)) ?_
    · omega
    refine AQuiet.cons 9 rfl rfl rfl (OpJ.assign rfl rfl) ?_
    refine AQuiet.nil ?_
    refine AList.nil ?_
    refine AWp.region ?_
    refine AList.c 16 rfl rfl rfl (OpJ.move rfl rfl) ?_
    refine AList.c 17 rfl rfl rfl (OpJ.add rfl rfl rfl (i64ok ?_)) ?_
    · omega
    refine AList.c 10 rfl rfl rfl (OpJ.assign rfl rfl) ?_
    refine AList.nil ?_
    refine ⟨i + 1, ?_, ?_, ?_⟩
    · omega
    · omega
    refine To.done [] rfl ?_ rfl
    refine Sub.cons rfl (Sub.cons ?_ (by repeat (first | exact Sub.nil | refine Sub.cons rfl ?_)))
    show some (V.p (.int .i64 (_ + ms[i] * ofF kd xs[b[i].s.toNat].w xs[b[i].s.toNat].c xs[b[i].s.toNat].l))) = _
    rw [← ex, ← em, ← eb]
    rfl
  · skip
    obtain rfl : i = b.length := by simp at hc0; omega
    refine AWp.exit ?_
    refine AWp.seq ?_
    refine AWp.region ?_
    refine AList.c 41 rfl rfl rfl (OpJ.move rfl rfl) ?_
    refine AList.c 8 rfl rfl rfl (OpJ.assign rfl rfl) ?_
    refine AList.nil ?_
    refine AWp.ret ?_
    exact Fin.one rfl (rfl)
end Go.Proofs.Ytmcejcidbekpkaa
