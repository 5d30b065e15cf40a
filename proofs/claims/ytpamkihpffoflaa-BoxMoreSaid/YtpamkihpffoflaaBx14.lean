/-
  How boxes are filled, in the other text.
-/
import Derived.Test.YtpamkihpffoflaaBxFactsB
import Derived.Test.YtpamkihpffoflaaBx13
import Derived.Test.YtpamkihpffoflaaBxS
set_option linter.unusedVariables false
set_option maxRecDepth 100000
set_option maxHeartbeats 4000000
set_option linter.unusedSimpArgs false
namespace Go.Proofs.Ytpamkihpffoflaa
open Go.AF
theorem needs_L (v : List Int) (L s : Nat) (hL : v.length = L) (hv : okV v) (hs : s ≤ 256) : Pure Try.prog 23 [.is (v.flatMap i1) L, .int .i64 (s : Int)] (.int .i64 (sumS v s)) := by
  subst hL; exact needs_ok v s hv hs
theorem of_drop (n : Nat) (l : List Pl) (k s : Nat) (hn : n ≤ 8) (hl : okP n l) (hs : s < 256) : Pure Try.prog 22 [.is ((l.drop k).flatMap Pl.cells) (l.length - k), .int .i64 (s : Int)] (.int .i64 (ofP (l.drop k) s)) := by
  have h := of_ok n (l.drop k) s hn (okP_drop hl k) hs
  unfold plV at h
  rwa [List.length_drop] at h
theorem rtimes_row (need : List Int) (b : Int) (h0 : 0 < need.length) (hn : okN need) (h8 : need.length ≤ 8) (b0 : 0 ≤ b) (b1 : b ≤ 10000000000) : ACalls Try.prog 47 ([intsV need, .int .i64 b].map .p) [] fun x H' => x = .row 0 need.length ∧ H' = [.row (((timesV need b).flatMap i1).map .p) 3] := by
  refine ACalls.start (N := 23) Try.func47 rfl rfl (Nat.le_of_ble_eq_true rfl) ?_
  refine AWp.seq ?_
  refine AWp.region ?_
  refine AList.c 4 rfl rfl rfl (OpJ.assign rfl rfl) ?_
  refine AList.nil ?_
  refine AWp.seq ?_
  refine AWp.region ?_
  refine AList.c 5 rfl rfl rfl (OpJ.assign rfl rfl) ?_
  refine AList.nil ?_
  refine AWp.seq ?_
  refine AWp.seq ?_
  refine AWp.region ?_
  refine AList.c 6 rfl rfl rfl (OpJ.assign rfl rfl) ?_
  refine AList.nil ?_
  refine AWp.block ?_
  refine AWp.loopH [5, 6, 7, 8, 9, 10, 11, 12, 13, 14, 15, 16, 17, 18, 19, 20, 21] (fun g => [(6, .p (.int .i64 ((g : Nat) : Int))), (5, accV 0 g)]) (fun g => [accB (((((timesV need b).take g)).flatMap i1).map .p) 3 g]) (fun g => g ≤ need.length) (fun g => need.length - g) 0 (Nat.zero_le _) (To.pad.trans (To.sub (Sub.chd (Sub.cons rfl (Sub.cons rfl Sub.nil))))) (fun i hg => ?_)
  refine AWp.seq ?_
  refine AWp.seq ?_
  refine AWp.region ?_
  refine AList.c 7 rfl rfl rfl (OpJ.move rfl rfl) ?_
  refine AList.c 8 rfl rfl rfl (OpJ.move rfl rfl) ?_
  refine AList.c 9 rfl rfl rfl (OpJ.lenSlice rfl rfl sl22 rfl) ?_
  refine AList.c 10 rfl rfl rfl (OpJ.lss rfl rfl rfl) ?_
  refine AList.nil ?_
  refine AWp.cond _ rfl (fun hc0 => ?_) (fun hc0 => ?_)
  · skip
    have hk0 : i < need.length := by simp at hc0; omega
    have hni := hn need[i] (List.getElem_mem _)
    have hmb := mul_B hni.1 hni.2 b0 b1
    refine AWp.skip ?_
    refine AWp.seq ?_
    refine AWp.block ?_
    refine AWp.region ?_
    refine AList.c 13 rfl rfl rfl (OpJ.move rfl rfl) ?_
    refine AList.c 14 rfl rfl rfl (OpJ.move rfl rfl) ?_
    refine AList.c 15 rfl rfl rfl (OpJ.move rfl rfl) ?_
    refine AList.c 16 rfl rfl rfl (OpJ.move rfl rfl) ?_
    refine AList.c 17 rfl rfl rfl (OpJ.indexEl rfl rfl rfl sl22 el22 rfl (fun _ => rfl) (by decide) hk0) ?_
    refine AList.c 18 rfl rfl rfl (OpJ.load rfl rfl ty3 rfl) ?_
    refine AList.c 19 rfl rfl rfl (OpJ.mul (m := need[i] * b) rfl rfl rfl ((i64ok ?_).trans ?_)) ?_
    · omega
    · exact Int.mul_comm _ _
    refine AList.c 20 rfl rfl rfl (OpJ.buildImm rfl slz22 (by decide) rfl rfl rfl) ?_
    refine AList.c 21 rfl rfl rfl (OpJ.appendAcc rfl rfl rfl slz22 sl22 rfl ?_ rfl (by decide) rfl by3 (by decide) ?_) ?_
    · rw [List.length_map, flat_len (c := 1) (fun _ => rfl), List.length_take, timesV_length]; show min _ _ * 1 = _ * 1; omega
    · omega
    refine AList.c 5 rfl rfl rfl (OpJ.assign rfl rfl) ?_
    refine AList.nil ?_
    refine AWp.region ?_
    refine AList.c 11 rfl rfl rfl (OpJ.move rfl rfl) ?_
    refine AList.c 12 rfl rfl rfl (OpJ.add rfl rfl rfl (i64ok ?_)) ?_
    · omega
    refine AList.c 6 rfl rfl rfl (OpJ.assign rfl rfl) ?_
    refine AList.nil ?_
    refine ⟨i + 1, ?_, ?_, ?_⟩
    · omega
    · omega
    refine To.done [1] rfl (by repeat (first | exact Sub.nil | refine Sub.cons rfl ?_)) ?_
    show [Blk.row (renL _ (_ ++ _)) _] = [Blk.row _ _]
    rw [renL_app, renL_pure, timesV_get hk0, List.flatMap_append, List.map_append]
    rfl
  · skip
    obtain rfl : i = need.length := by simp at hc0; omega
    rw [accV_pos h0, accB_pos h0, List.take_of_length_le (by rw [timesV_length]; exact Nat.le_refl _)]
    refine AWp.exit ?_
    refine AWp.seq ?_
    refine AWp.region ?_
    refine AList.c 22 rfl rfl rfl (OpJ.move rfl rfl) ?_
    refine AList.c 4 rfl rfl rfl (OpJ.assign rfl rfl) ?_
    refine AList.nil ?_
    refine AWp.ret ?_
    exact ⟨.inr rfl, .row 0 need.length, resV.one rfl rfl, rfl, rfl⟩
theorem rfill_ok (need : List Int) (l : List Pr) (b : Int) (hnl : need.length ≤ bigN) (hll : l.length ≤ bigN) : Pure Try.prog 17 [intsV need, rawV l, .int .i64 b] (.tuple [rowsV need.length (fillR need l b).1, .int .i64 (fillR need l b).2]) := by
  refine Pure.start (N := 130) Try.func17 rfl rfl (Nat.le_of_ble_eq_true rfl) ?_
  refine AWp.seq ?_
  refine AWp.region ?_
  refine AList.c 6 rfl rfl rfl (OpJ.assign rfl rfl) ?_
  refine AList.c 7 rfl rfl rfl (OpJ.assign rfl rfl) ?_
  refine AList.nil ?_
  refine AWp.seq ?_
  refine AWp.region ?_
  refine AList.c 19 rfl rfl rfl (OpJ.move rfl rfl) ?_
  refine AList.c 20 rfl rfl rfl (OpJ.move rfl rfl) ?_
  refine AList.c 21 rfl rfl rfl (OpJ.move rfl rfl) ?_
  refine AList.c 22 rfl rfl rfl (OpJ.callP (rcheck_ok need l b hnl hll) rfl rfl rfl rfl rf41) ?_
  refine AList.c 8 rfl rfl rfl (OpJ.assign rfl rfl) ?_
  refine AList.nil ?_
  refine AWp.seq ?_
  refine AWp.seq ?_
  refine AWp.region ?_
  refine AList.c 23 rfl rfl rfl (OpJ.move rfl rfl) ?_
  refine AList.c 24 rfl rfl rfl (OpJ.neq rfl rfl rfl) ?_
  refine AList.nil ?_
  refine AWp.cond _ rfl (fun hc0 => ?_) (fun hc0 => ?_)
  · skip
    have hc : checkR need l b ≠ 0 := by simpa using hc0
    refine AWp.seq ?_
    refine AWp.region ?_
    refine AList.c 25 rfl rfl rfl (OpJ.move rfl rfl) ?_
    refine AList.c 6 rfl rfl rfl (OpJ.assign rfl rfl) ?_
    refine AList.c 7 rfl rfl rfl (OpJ.assign rfl rfl) ?_
    refine AList.nil ?_
    refine AWp.to (To.nilIs 6 rfl) ?_
    refine AWp.ret ?_
    have e : fillR need l b = ([], checkR need l b) := by unfold fillR; rw [if_neg hc]
    rw [e]
    exact Fin.many (xs := [.is [] 0, .int .i64 (checkR need l b)]) rfl (⟨_, _, rfl, rfl, ⟨_, _, rfl, rfl, rfl⟩⟩) rfl
  · skip
    have hc : checkR need l b = 0 := by simpa using hc0
    obtain ⟨hV, hb⟩ := checkR_zero hc
    have hn : okN need := hV.2.2.1
    have h8 := hV.1.2
    have h0 := hV.1.1
    have hL := toPl_ok hV
    rw [toPl_raw hV]
    have hp := pow8 h8
    have hp1 := pow_pos' need.length
    have hA : allS need.length = 2 ^ need.length - 1 := rfl
    have hl8 := hL.1
    have hvt := timesV_ok (b := b) hn h8 (by omega) (by omega)
    refine AWp.skip ?_
    refine AWp.seq ?_
    refine AWp.region ?_
    refine AList.c 27 rfl rfl rfl (OpJ.move rfl rfl) ?_
    refine AList.c 28 rfl rfl rfl (OpJ.move rfl rfl) ?_
    refine AList.c 29 rfl rfl rfl (OpJ.move rfl rfl) ?_
    refine AList.c 30 rfl rfl rfl (OpJ.callP (rlack_ok need (toPl l) b hn h8 hL (by omega) (by omega)) rfl rfl rfl rfl rf42) ?_
    refine AList.c 26 rfl rfl rfl (OpJ.move rfl rfl) ?_
    refine AList.c 31 rfl rfl rfl (OpJ.extract rfl rfl rfl) ?_
    refine AList.c 32 rfl rfl rfl (OpJ.extract rfl rfl rfl) ?_
    refine AList.c 9 rfl rfl rfl (OpJ.assign rfl rfl) ?_
    refine AList.c 10 rfl rfl rfl (OpJ.assign rfl rfl) ?_
    refine AList.nil ?_
    refine AWp.seq ?_
    refine AWp.seq ?_
    refine AWp.region ?_
    refine AList.c 33 rfl rfl rfl (OpJ.move rfl rfl) ?_
    refine AList.c 34 rfl rfl rfl (OpJ.gtr rfl rfl rfl) ?_
    refine AList.nil ?_
    refine AWp.cond _ rfl (fun hc1 => ?_) (fun hc1 => ?_)
    · skip
      have hz : ¬ (lkF (timesV need b) (toPl l) (allS need.length)).2 = 0 := by have h := of_decide_eq_true hc1; omega
      refine AWp.seq ?_
      refine AWp.region ?_
      refine AList.c 6 rfl rfl rfl (OpJ.assign rfl rfl) ?_
      refine AList.c 7 rfl rfl rfl (OpJ.assign rfl rfl) ?_
      refine AList.nil ?_
      refine AWp.to (To.nilIs 6 rfl) ?_
      refine AWp.ret ?_
      have e : fillR need l b = ([], 10) := by unfold fillR; rw [if_pos hc, if_neg hz]
      rw [e]
      exact Fin.many (xs := [.is [] 0, .int .i64 10]) rfl (⟨_, _, rfl, rfl, ⟨_, _, rfl, rfl, rfl⟩⟩) rfl
    · skip
      have hz : (lkF (timesV need b) (toPl l) (allS need.length)).2 = 0 := by have h := of_decide_eq_false hc1; have h5 := lkF_nonneg (timesV need b) (toPl l) (allS need.length); omega
      have hLI := LInv.ok hL hn h8 (by omega) (by omega) hz
      refine AWp.skip ?_
      refine AWp.seq ?_
      refine AWp.region ?_
      refine AList.c 35 rfl rfl rfl (OpJ.move rfl rfl) ?_
      refine AList.c 36 rfl rfl rfl (OpJ.move rfl rfl) ?_
      refine AList.c 37 rfl rfl rfl (OpJ.callRow 3 (rtimes_row need b h0 hn h8 (by omega) (by omega)) (scI _) rfl rfl rfl rfl rfl rf47) ?_
      refine AList.c 11 rfl rfl rfl (OpJ.assign rfl rfl) ?_
      refine AList.nil ?_
      refine AWp.seq ?_
      refine AWp.region ?_
      refine AList.c 12 rfl rfl rfl (OpJ.assign rfl rfl) ?_
      refine AList.nil ?_
      refine AWp.seq ?_
      refine AWp.seq ?_
      refine AWp.region ?_
      refine AList.c 13 rfl rfl rfl (OpJ.assign rfl rfl) ?_
      refine AList.nil ?_
      refine AWp.block ?_
      refine AWp.loopHL [0, 1, 6, 7, 11, 129] (fun g => [(13, .p (.int .i64 ((g : Nat) : Int))), (12, accV 1 g)]) (fun g => [.row (((leftF (toPl l) need.length (timesV need b) g).flatMap i1).map .p) 3, accB (((rowsF (toPl l) need.length (timesV need b) g).flatMap (rowC need.length)).map .p) 22 g]) (fun g => g ≤ (toPl l).length) (fun g => (toPl l).length - g) 0 (Nat.zero_le _) (To.pad.trans (To.sub (Sub.chk (Sub.cons rfl (Sub.cons rfl Sub.nil))))) (fun i hg => ?_)
      refine AWp.seq ?_
      refine AWp.seq ?_
      refine AWp.region ?_
      refine AList.c 38 rfl rfl rfl (OpJ.move rfl rfl) ?_
      refine AList.c 39 rfl rfl rfl (OpJ.move rfl rfl) ?_
      refine AList.c 40 rfl rfl rfl (OpJ.lenSlice rfl rfl sl23 rfl) ?_
      refine AList.c 41 rfl rfl rfl (OpJ.lss rfl rfl rfl) ?_
      refine AList.nil ?_
      refine AWp.cond _ rfl (fun hc2 => ?_) (fun hc2 => ?_)
      · skip
        have hk0 : i < (toPl l).length := by have h := of_decide_eq_true hc2; omega
        refine AWp.skip ?_
        refine AWp.seq ?_
        refine AWp.block ?_
        refine AWp.seq ?_
        refine AWp.region ?_
        refine AList.c 44 rfl rfl rfl (OpJ.move rfl rfl) ?_
        refine AList.c 45 rfl rfl rfl (OpJ.lenSlice rfl rfl sl22 rfl) ?_
        refine AList.c 46 rfl rfl rfl (OpJ.makeSlice (n := need.length) (c := need.length) rfl rfl rfl slz22 by3 (by decide) (Nat.le_refl _) (by omega)) ?_
        rw [repl_i1]
        refine AList.c 14 rfl rfl rfl (OpJ.assign rfl rfl) ?_
        refine AList.nil ?_
        refine AWp.seq ?_
        refine AWp.region ?_
        refine AList.c 47 rfl rfl rfl (OpJ.move rfl rfl) ?_
        refine AList.c 48 rfl rfl rfl (OpJ.move rfl rfl) ?_
        refine AList.c 49 rfl rfl rfl (OpJ.indexEl rfl rfl rfl sl23 el23 rfl (fun _ => rfl) (by decide) hk0) ?_
        refine AList.c 50 rfl rfl rfl (OpJ.load rfl rfl ty46 rfl) ?_
        refine AList.c 15 rfl rfl rfl (OpJ.allocOwn rfl zr46 rfl) ?_
        refine AList.c0 rfl rfl (OpJ.store rfl rfl rfl rfl rfl ty46 rfl rfl) ?_
        refine AList.nil ?_
        refine AWp.seq ?_
        refine AWp.seq ?_
        refine AWp.region ?_
        refine AList.c 16 rfl rfl rfl (OpJ.assign rfl rfl) ?_
        refine AList.nil ?_
        refine AWp.block ?_
        refine AWp.loopHL [0, 1, 6, 7, 11, 12, 13, 14, 15, 38, 39, 40, 41, 42, 43, 44, 45, 46, 47, 48, 49, 50, 125, 126, 127, 128, 129] (fun g => [(16, .p (.int .i64 ((g : Nat) : Int)))]) (fun g => [.row (((midF (toPl l) need.length (timesV need b) i g).v.flatMap i1).map .p) 3, accB (((rowsF (toPl l) need.length (timesV need b) i).flatMap (rowC need.length)).map .p) 22 i, .row (((midF (toPl l) need.length (timesV need b) i g).row.flatMap i1).map .p) 3, .cells [.p (.int .i64 ((midF (toPl l) need.length (timesV need b) i g).q : Int)), .p (.int .i64 (midF (toPl l) need.length (timesV need b) i g).m)] 46]) (fun g => g ≤ need.length) (fun g => need.length - g) 0 (Nat.zero_le _) (by rw [midF_0 hk0]; exact To.sub (Sub.chk (Sub.cons rfl Sub.nil))) (fun k hh => ?_)
        refine AWp.seq ?_
        refine AWp.seq ?_
        refine AWp.region ?_
        refine AList.c 51 rfl rfl rfl (OpJ.move rfl rfl) ?_
        refine AList.c 52 rfl rfl rfl (OpJ.move rfl rfl) ?_
        refine AList.c 53 rfl rfl rfl (OpJ.lenSlice rfl rfl sl22 rfl) ?_
        refine AList.c 54 rfl rfl rfl (OpJ.lss rfl rfl rfl) ?_
        refine AList.nil ?_
        refine AWp.cond _ rfl (fun hc3 => ?_) (fun hc3 => ?_)
        · skip
          have hk1 : k < need.length := by have h := of_decide_eq_true hc3; omega
          have hF := midF_inv hL hLI hk0 k (by omega)
          have hkv : k < (midF (toPl l) need.length (timesV need b) i k).v.length := by rw [hF.len]; exact hk1
          have hkr : k < (midF (toPl l) need.length (timesV need b) i k).row.length := by rw [hF.rlen]; exact hk1
          have hokv := hF.okV h8
          have hFq := hF.q
          have hFm := hF.m0
          have hpk := pow_pos' k
          have hFv := hF.pos _ (List.getElem_mem hkv)
          refine AWp.skip ?_
          refine AWp.seq ?_
          refine AWp.block ?_
          refine AWp.seq ?_
          refine AWp.seq ?_
          refine AWp.region ?_
          refine AList.c 57 rfl rfl rfl (OpJ.fieldAddr rfl rfl fd46_0 rfl) ?_
          refine AList.c 58 rfl rfl rfl (OpJ.load rfl rfl ty3 rfl) ?_
          refine AList.c 59 rfl rfl rfl (OpJ.move rfl rfl) ?_
          refine AList.c 60 rfl rfl rfl (OpJ.callP (has_ok (midF (toPl l) need.length (timesV need b) i k).q k (by omega) (by omega)) rfl rfl rfl rfl rf25) ?_
          refine AList.c 61 rfl rfl rfl (OpJ.not_ rfl rfl) ?_
          refine AList.nil ?_
          refine AWp.cond _ rfl (fun hc4 => ?_) (fun hc4 => ?_)
          · skip
            have hq : (midF (toPl l) need.length (timesV need b) i k).q.testBit k = false := by simpa using hc4
            refine AWp.exit ?_
            refine AWp.region ?_
            refine AList.c 55 rfl rfl rfl (OpJ.move rfl rfl) ?_
            refine AList.c 56 rfl rfl rfl (OpJ.add rfl rfl rfl (i64ok ?_)) ?_
            · omega
            refine AList.c 16 rfl rfl rfl (OpJ.assign rfl rfl) ?_
            refine AList.nil ?_
            refine ⟨k + 1, ?_, ?_, ?_⟩
            · omega
            · omega
            rw [midF_no hq]
            exact To.sub (by repeat (first | exact Sub.nil | refine Sub.cons rfl ?_))
          · skip
            have hq : (midF (toPl l) need.length (timesV need b) i k).q.testBit k = true := by simpa using hc4
            have hda := dropB_add hq
            have hvk : (midF (toPl l) need.length (timesV need b) i k).v[k]?.getD 0 = (midF (toPl l) need.length (timesV need b) i k).v[k] := by simp [hkv]
            refine AWp.skip ?_
            refine AWp.seq ?_
            refine AWp.regionDraw 6 mixed (by kernel_rfl) (by decide) ?_
            refine AQuiet.cons 62 rfl rfl rfl (OpJ.fieldAddr rfl rfl fd46_0 rfl) ?_
            refine AQuiet.cons 63 rfl rfl rfl (OpJ.load rfl rfl ty3 rfl) ?_
            refine AQuiet.cons 64 rfl rfl rfl (OpJ.move rfl rfl) ?_
            refine AQuiet.cons 65 rfl rfl rfl (OpJ.callP (power_ok k (by omega)) rfl rfl rfl rfl rf38) ?_
            refine AQuiet.cons 66 rfl rfl rfl (OpJ.sub_ (m := ((dropB (midF (toPl l) need.length (timesV need b) i k).q k : Nat) : Int)) rfl rfl rfl ((i64ok ?_).trans ?_)) ?_
            · omega
            · omega
            refine AQuiet.cons 67 rfl rfl rfl (OpJ.fieldAddr rfl rfl fd46_0 rfl) ?_
            refine AQuiet.nil ?_
            refine AList.c0 rfl rfl (OpJ.store rfl rfl rfl rfl rfl ty3 rfl rfl) ?_
            refine AList.nil ?_
            refine AWp.seq ?_
            refine AWp.regionDraw 8 mixed (by kernel_rfl) (by decide) ?_
            refine AQuiet.cons 68 rfl rfl rfl (OpJ.fieldAddr rfl rfl fd46_1 rfl) ?_
            refine AQuiet.cons 69 rfl rfl rfl (OpJ.load rfl rfl ty3 rfl) ?_
            refine AQuiet.cons 70 rfl rfl rfl (OpJ.move rfl rfl) ?_
            refine AQuiet.cons 71 rfl rfl rfl (OpJ.move rfl rfl) ?_
            refine AQuiet.cons 72 rfl rfl rfl (OpJ.indexRow rfl rfl rfl sl22 el22 hk1) ?_
            refine AQuiet.cons 73 rfl rfl rfl (OpJ.loadFlat (f := i1) (c := 1) (k := k) (j := 0) (xs := (midF (toPl l) need.length (timesV need b) i k).v) rfl rfl ty3 rfl rfl (by omega) (fun _ => rfl) hkv (by decide) (show _ = PV.int .i64 ((midF (toPl l) need.length (timesV need b) i k).v[k]?.getD 0) from by rw [List.getElem?_eq_getElem hkv]; rfl)) ?_
            refine AQuiet.cons 74 rfl rfl rfl (OpJ.min2 rfl rfl rfl) ?_
            refine AQuiet.cons 17 rfl rfl rfl (OpJ.assign rfl rfl) ?_
            refine AQuiet.nil ?_
            refine AList.nil ?_
            refine AWp.seq ?_
            refine AWp.seq ?_
            refine AWp.region ?_
            refine AList.c 18 rfl rfl rfl (OpJ.assign rfl rfl) ?_
            refine AList.nil ?_
            refine AWp.block ?_
            refine AWp.loopKL [0, 1, 6, 7, 11, 12, 13, 14, 15, 16, 38, 39, 40, 41, 42, 43, 44, 45, 46, 47, 48, 49, 50, 51, 52, 53, 54, 55, 56, 57, 58, 59, 60, 61, 62, 63, 64, 65, 66, 67, 68, 69, 70, 71, 72, 73, 74, 107, 108, 109, 110, 111, 112, 113, 114, 115, 116, 117, 118, 119, 120, 121, 122, 123, 124, 125, 126, 127, 128, 129] (fun g => [(18, .p (.int .i64 ((g + 1 : Nat) : Int))), (17, .p (.int .i64 (numF (toPl l) need.length (timesV need b) i k g)))]) (fun g => g ≤ allS need.length) (fun g => allS need.length - g) 0 (Nat.zero_le _) (Sub.cons rfl (Sub.cons rfl (Sub.nil))) (fun j hj => ?_)
            have hnb := nF_B (okP_drop hL (i + 1)) hF h8 hk1 (q := dropB (midF (toPl l) need.length (timesV need b) i k).q k) j
            change _ ≤ (numF (toPl l) need.length (timesV need b) i k j) ∧ (numF (toPl l) need.length (timesV need b) i k j) ≤ _ at hnb
            refine AWp.seq ?_
            refine AWp.seq ?_
            refine AWp.region ?_
            refine AList.c 75 rfl rfl rfl (OpJ.move rfl rfl) ?_
            refine AList.c 76 rfl rfl rfl (OpJ.move rfl rfl) ?_
            refine AList.c 77 rfl rfl rfl (OpJ.lenSlice rfl rfl sl22 rfl) ?_
            refine AList.c 78 rfl rfl rfl (OpJ.callP (power_ok need.length (by omega)) rfl rfl rfl rfl rf38) ?_
            refine AList.c 79 rfl rfl rfl (OpJ.lss rfl rfl rfl) ?_
            refine AList.nil ?_
            refine AWp.cond _ rfl (fun hc5 => ?_) (fun hc5 => ?_)
            · skip
              have hk2 : j + 1 < 2 ^ need.length := by have h := of_decide_eq_true hc5; omega
              have hs1 := sumS_B hokv (j + 1)
              have hs2 := ofP_BB (okP_drop hL (i + 1)) (j + 1)
              refine AWp.skip ?_
              refine AWp.seq ?_
              refine AWp.block ?_
              refine AWp.seq ?_
              refine AWp.region ?_
              refine AList.c 82 rfl rfl rfl (OpJ.move rfl rfl) ?_
              refine AList.c 83 rfl rfl rfl (OpJ.move rfl rfl) ?_
              refine AList.c 84 rfl rfl rfl (OpJ.callP (has_ok (j + 1) k (by omega) (by omega)) rfl rfl rfl rfl rf25) ?_
              refine AList.c 85 rfl rfl rfl (OpJ.not_ rfl rfl) ?_
              refine AList.c 86 rfl rfl rfl (OpJ.move rfl rfl) ?_
              refine AList.g 87 86 rfl rfl rfl rfl rfl rfl rfl [(18, _)] (fun h => And.intro (.inl rfl) (trivial)) (fun h => (OpJ.move rfl rfl)) ?_
              refine AList.g 88 86 rfl rfl rfl rfl rfl rfl rfl [(15, _)] (fun h => And.intro (.inl rfl) (trivial)) (fun h => (OpJ.fieldAddr rfl rfl fd46_0 rfl)) ?_
              refine AList.g 89 86 rfl rfl rfl rfl rfl rfl rfl [(88, _)] (fun h => And.intro (.inr ⟨_, rfl, h⟩) (trivial)) (fun h => (OpJ.load rfl rfl ty3 rfl)) ?_
              refine AList.g 90 86 rfl rfl rfl rfl rfl rfl rfl [(87, _), (89, _)] (fun h => And.intro (.inr ⟨_, rfl, h⟩) (And.intro (.inr ⟨_, rfl, h⟩) (trivial))) (fun h => (OpJ.callP (common_ok (j + 1) (dropB (midF (toPl l) need.length (timesV need b) i k).q k) (by omega) (by omega)) rfl rfl rfl rfl rf48)) ?_
              refine AList.c 91 rfl rfl rfl (OpJ.and_ rfl rfl rfl ?_) ?_
              · first | (intro h; rw [h]; rfl) | (intro h; simp_all)
              refine AList.nil ?_
              refine AWp.cond _ rfl (fun hc6 => ?_) (fun hc6 => ?_)
              · skip
                have h6 : (j + 1).testBit k = false ∧ ¬ (j + 1) &&& dropB (midF (toPl l) need.length (timesV need b) i k).q k = 0 := by simpa using hc6
                refine AWp.regionDraw 16 mixed (by kernel_rfl) (by decide) ?_
                refine AQuiet.cons 92 rfl rfl rfl (OpJ.move rfl rfl) ?_
                refine AQuiet.cons 93 rfl rfl rfl (OpJ.fieldAddr rfl rfl fd46_1 rfl) ?_
                refine AQuiet.cons 94 rfl rfl rfl (OpJ.load rfl rfl ty3 rfl) ?_
                refine AQuiet.cons 95 rfl rfl rfl (OpJ.move rfl rfl) ?_
                refine AQuiet.cons 96 rfl rfl rfl (OpJ.move rfl rfl) ?_
                refine AQuiet.cons 97 rfl rfl rfl (OpJ.add (m := ((i + 1 : Nat) : Int)) rfl rfl rfl ((i64ok ?_).trans ?_)) ?_
                · omega
                · omega
                refine AQuiet.cons 98 rfl rfl rfl (OpJ.sliceIs (l := (i + 1)) (h := (toPl l).length) (r := (((toPl l).drop (i + 1)).flatMap Pl.cells)) rfl rfl sl23 el23 ⟨_, rfl⟩ rfl (by omega) (by omega) (plDrop _ _)) ?_
                refine AQuiet.cons 99 rfl rfl rfl (OpJ.move rfl rfl) ?_
                refine AQuiet.cons 100 rfl rfl rfl (OpJ.callP (of_drop need.length (toPl l) (i + 1) (j + 1) h8 hL (by omega)) rfl rfl rfl rfl rf22) ?_
                refine AQuiet.cons 101 rfl rfl rfl (OpJ.add rfl rfl rfl (i64ok ?_)) ?_
                · omega
                refine AQuiet.cons 102 rfl rfl rfl (OpJ.move rfl rfl) ?_
                refine AQuiet.cons 103 rfl rfl rfl (OpJ.move rfl rfl) ?_
                refine AQuiet.cons 104 rfl rfl rfl (OpJ.callB 3 (needs_L (midF (toPl l) need.length (timesV need b) i k).v need.length (j + 1) hF.len hokv (by omega)) rfl rfl rfl rfl rfl (mapO.c (brwRow rfl) (mapO.c brwP mapO.n)) rf23) ?_
                refine AQuiet.cons 105 rfl rfl rfl (OpJ.sub_ rfl rfl rfl (i64ok ?_)) ?_
                · omega
                refine AQuiet.cons 106 rfl rfl rfl (OpJ.min2 rfl rfl rfl) ?_
                refine AQuiet.cons 17 rfl rfl rfl (OpJ.assign rfl rfl) ?_
                refine AQuiet.nil ?_
                refine AList.nil ?_
                refine AWp.region ?_
                refine AList.c 80 rfl rfl rfl (OpJ.move rfl rfl) ?_
                refine AList.c 81 rfl rfl rfl (OpJ.add rfl rfl rfl (i64ok ?_)) ?_
                · omega
                refine AList.c 18 rfl rfl rfl (OpJ.assign rfl rfl) ?_
                refine AList.nil ?_
                refine ⟨j + 1, ?_, ?_, ?_⟩
                · omega
                · omega
                refine To.sub (Sub.cons rfl (Sub.cons ?_ (by repeat (first | exact Sub.nil | refine Sub.cons rfl ?_))))
                rw [numF_next h6]; rfl
              · skip
                have h6 : ¬ ((j + 1).testBit k = false ∧ ¬ (j + 1) &&& dropB (midF (toPl l) need.length (timesV need b) i k).q k = 0) := by simpa using hc6
                refine AWp.skip ?_
                refine AWp.region ?_
                refine AList.c 80 rfl rfl rfl (OpJ.move rfl rfl) ?_
                refine AList.c 81 rfl rfl rfl (OpJ.add rfl rfl rfl (i64ok ?_)) ?_
                · omega
                refine AList.c 18 rfl rfl rfl (OpJ.assign rfl rfl) ?_
                refine AList.nil ?_
                refine ⟨j + 1, ?_, ?_, ?_⟩
                · omega
                · omega
                refine To.sub (Sub.cons rfl (Sub.cons ?_ (by repeat (first | exact Sub.nil | refine Sub.cons rfl ?_))))
                rw [numF_stay h6]; rfl
            · skip
              obtain rfl : j = allS need.length := by have h := of_decide_eq_false hc5; omega
              refine AWp.exit ?_
              refine AWp.seq ?_
              refine AWp.region ?_
              refine AList.c 107 rfl rfl rfl (OpJ.move rfl rfl) ?_
              refine AList.c 108 rfl rfl rfl (OpJ.move rfl rfl) ?_
              refine AList.c 109 rfl rfl rfl (OpJ.move rfl rfl) ?_
              refine AList.c 110 rfl rfl rfl (OpJ.indexRow rfl rfl rfl sl22 el22 hk1) ?_
              refine AList.c0 rfl rfl (OpJ.storeRow (f := i1) (c := 1) (k := k) (j := 0) (xs := (midF (toPl l) need.length (timesV need b) i k).row) (z := (numF (toPl l) need.length (timesV need b) i k (allS need.length))) (ws := [_]) rfl rfl rfl rfl rfl ty3 rfl rfl rfl (by omega) (fun _ => rfl) hkr (Nat.le_of_ble_eq_true rfl) rfl) ?_
              refine AList.nil ?_
              refine AWp.seq ?_
              refine AWp.region ?_
              refine AList.c 111 rfl rfl rfl (OpJ.move rfl rfl) ?_
              refine AList.c 112 rfl rfl rfl (OpJ.move rfl rfl) ?_
              refine AList.c 113 rfl rfl rfl (OpJ.move rfl rfl) ?_
              refine AList.c 114 rfl rfl rfl (OpJ.move rfl rfl) ?_
              refine AList.c 115 rfl rfl rfl (OpJ.indexRow rfl rfl rfl sl22 el22 hk1) ?_
              refine AList.c 116 rfl rfl rfl (OpJ.loadFlat (f := i1) (c := 1) (k := k) (j := 0) (xs := (midF (toPl l) need.length (timesV need b) i k).v) rfl rfl ty3 rfl rfl (by omega) (fun _ => rfl) hkv (by decide) (show _ = PV.int .i64 ((midF (toPl l) need.length (timesV need b) i k).v[k]?.getD 0) from by rw [List.getElem?_eq_getElem hkv]; rfl)) ?_
              refine AList.c 117 rfl rfl rfl (OpJ.move rfl rfl) ?_
              refine AList.c 118 rfl rfl rfl (OpJ.sub_ rfl rfl rfl (i64ok ?_)) ?_
              · omega
              refine AList.c 119 rfl rfl rfl (OpJ.indexRow rfl rfl rfl sl22 el22 hk1) ?_
              refine AList.c0 rfl rfl (OpJ.storeRow (f := i1) (c := 1) (k := k) (j := 0) (xs := (midF (toPl l) need.length (timesV need b) i k).v) (z := ((midF (toPl l) need.length (timesV need b) i k).v[k]?.getD 0 - (numF (toPl l) need.length (timesV need b) i k (allS need.length)))) (ws := [_]) rfl rfl rfl rfl rfl ty3 rfl rfl rfl (by omega) (fun _ => rfl) hkv (Nat.le_of_ble_eq_true rfl) rfl) ?_
              refine AList.nil ?_
              refine AWp.region ?_
              refine AList.c 120 rfl rfl rfl (OpJ.fieldAddr rfl rfl fd46_1 rfl) ?_
              refine AList.c 121 rfl rfl rfl (OpJ.load rfl rfl ty3 rfl) ?_
              refine AList.c 122 rfl rfl rfl (OpJ.move rfl rfl) ?_
              refine AList.c 123 rfl rfl rfl (OpJ.sub_ rfl rfl rfl (i64ok ?_)) ?_
              · omega
              refine AList.c 124 rfl rfl rfl (OpJ.fieldAddr rfl rfl fd46_1 rfl) ?_
              refine AList.c0 rfl rfl (OpJ.store rfl rfl rfl rfl rfl ty3 rfl rfl) ?_
              refine AList.nil ?_
              refine AWp.region ?_
              refine AList.c 55 rfl rfl rfl (OpJ.move rfl rfl) ?_
              refine AList.c 56 rfl rfl rfl (OpJ.add rfl rfl rfl (i64ok ?_)) ?_
              · omega
              refine AList.c 16 rfl rfl rfl (OpJ.assign rfl rfl) ?_
              refine AList.nil ?_
              refine ⟨k + 1, ?_, ?_, ?_⟩
              · omega
              · omega
              rw [midF_yes hq]
              exact To.sub (by repeat (first | exact Sub.nil | refine Sub.cons rfl ?_))
        · skip
          obtain rfl : k = need.length := by have h := of_decide_eq_false hc3; omega
          refine AWp.freeze 2 rfl (allP_map _) ?_
          refine AWp.sub' (T' := [(12, accV 1 i), (13, _), (14, _), (0, _), (1, _), (6, _), (7, _), (11, _)]) (Sub.cons (lk_frz_acc rfl rfl) (Sub.cons rfl (Sub.cons rfl (Sub.cons rfl (Sub.cons rfl (Sub.cons rfl (Sub.cons rfl (Sub.cons rfl Sub.nil)))))))) ?_
          refine AWp.exit ?_
          refine AWp.region ?_
          refine AList.c 125 rfl rfl rfl (OpJ.move rfl rfl) ?_
          refine AList.c 126 rfl rfl rfl (OpJ.move rfl rfl) ?_
          refine AList.c 127 rfl rfl rfl (OpJ.buildImm rfl slz31 (by decide) rfl rfl rfl) ?_
          refine AList.c 128 rfl rfl rfl (OpJ.appendAcc rfl rfl rfl slz31 sl31 rfl ?_ rfl (by decide) rfl by22 (by decide) ?_) ?_
          · rw [List.length_map, flat_len (c := 1) (fun _ => rfl), rowsF_length]; rfl
          · omega
          refine AList.c 12 rfl rfl rfl (OpJ.assign rfl rfl) ?_
          refine AList.nil ?_
          refine AWp.region ?_
          refine AList.c 42 rfl rfl rfl (OpJ.move rfl rfl) ?_
          refine AList.c 43 rfl rfl rfl (OpJ.add rfl rfl rfl (i64ok ?_)) ?_
          · omega
          refine AList.c 13 rfl rfl rfl (OpJ.assign rfl rfl) ?_
          refine AList.nil ?_
          refine ⟨i + 1, ?_, ?_, ?_⟩
          · omega
          · omega
          refine To.done [0, 4] rfl (by repeat (first | exact Sub.nil | refine Sub.cons rfl ?_)) ?_
          show [Blk.row (renL _ _) _, Blk.row (renL _ (_ ++ _)) _] = _
          rw [renL_app, renL_pure, renL_pure, rowsF_succ, List.flatMap_append, List.map_append]
          rfl
      · skip
        obtain rfl : i = (toPl l).length := by have h := of_decide_eq_false hc2; omega
        refine AWp.to (To.accD 12 1 (toPl l).length rfl rfl (fun h => by rw [h]; rfl)) ?_
        refine AWp.exit ?_
        refine AWp.seq ?_
        refine AWp.region ?_
        refine AList.c 129 rfl rfl rfl (OpJ.move rfl rfl) ?_
        refine AList.c 6 rfl rfl rfl (OpJ.assign rfl rfl) ?_
        refine AList.c 7 rfl rfl rfl (OpJ.assign rfl rfl) ?_
        refine AList.nil ?_
        refine AWp.ret ?_
        have e : fillR need l b = (rowsF (toPl l) need.length (timesV need b) (toPl l).length, 0) := by unfold fillR; rw [if_pos hc, if_pos hz]
        rw [e]
        refine Fin.manyE (xs := [.is ((rowsF (toPl l) need.length (timesV need b) (toPl l).length).flatMap (rowC need.length)) (toPl l).length, .int .i64 0]) rfl (⟨_, _, rfl, rfl, ⟨_, _, rfl, rfl, rfl⟩⟩) rfl ?_
        unfold rowsV; rw [rowsF_length]
end Go.Proofs.Ytpamkihpffoflaa
