/-
  How boxes are filled.
-/
import Derived.Test.YtpamkihpffoflaaBxFactsB
import Derived.Test.YtpamkihpffoflaaBx16
set_option linter.unusedVariables false
set_option maxRecDepth 100000
set_option maxHeartbeats 4000000
set_option linter.unusedSimpArgs false
namespace Go.Proofs.Ytpamkihpffoflaa
open Go.AF
theorem bfill_ok (need : List Int) (l : List Pr) (b : Int) (hnl : need.length ≤ bigN) (hll : l.length ≤ bigN) : Pure Try.prog 16 [intsV need, rawV l, .int .i64 b] (.tuple [rowsV need.length (fillR need l b).1, .int .i64 (fillR need l b).2]) := by
  refine Pure.start (N := 118) Try.func16 rfl rfl (Nat.le_of_ble_eq_true rfl) ?_
  refine AWp.seq ?_
  refine AWp.region ?_
  refine AList.c 6 rfl rfl rfl (OpJ.assign rfl rfl) ?_
  refine AList.c 7 rfl rfl rfl (OpJ.assign rfl rfl) ?_
  refine AList.nil ?_
  refine AWp.seq ?_
  refine AWp.seq ?_
  refine AWp.region ?_
  refine AList.c 19 rfl rfl rfl (OpJ.move rfl rfl) ?_
  refine AList.c 20 rfl rfl rfl (OpJ.move rfl rfl) ?_
  refine AList.c 21 rfl rfl rfl (OpJ.move rfl rfl) ?_
  refine AList.c 22 rfl rfl rfl (OpJ.callP (bcheck_ok need l b hnl hll) rfl rfl rfl rfl rf39) ?_
  refine AList.c 8 rfl rfl rfl (OpJ.assign rfl rfl) ?_
  refine AList.nil ?_
  refine AWp.seq ?_
  refine AWp.region ?_
  refine AList.c 23 rfl rfl rfl (OpJ.move rfl rfl) ?_
  refine AList.c 24 rfl rfl rfl (OpJ.neq rfl rfl rfl) ?_
  refine AList.nil ?_
  refine AWp.cond _ rfl (fun hc0 => ?_) (fun hc0 => ?_)
  · skip
    have hc : checkR need l b ≠ 0 := by simpa using hc0
    refine AWp.seq ?_
    refine AWp.region ?_
    refine AList.c 25 rfl rfl rfl (OpJ.move rfl rfl) ?_
    refine AList.c 6 rfl rfl rfl (OpJ.assign rfl rfl) ?_
    refine AList.c 7 rfl rfl rfl (OpJ.assign rfl rfl) ?_
    refine AList.nil ?_
    refine AWp.to (To.nilIs 6 rfl) ?_
    refine AWp.ret ?_
    have e : fillR need l b = ([], checkR need l b) := by unfold fillR; rw [if_neg hc]
    rw [e]
    exact Fin.many (xs := [.is [] 0, .int .i64 (checkR need l b)]) rfl (⟨_, _, rfl, rfl, ⟨_, _, rfl, rfl, rfl⟩⟩) rfl
  · skip
    have hc : checkR need l b = 0 := by simpa using hc0
    obtain ⟨hV, hb⟩ := checkR_zero hc
    have hn : okN need := hV.2.2.1
    have h8 := hV.1.2
    have h0 := hV.1.1
    have hL := toPl_ok hV
    rw [toPl_raw hV]
    have hp := pow8 h8
    have hp1 := pow_pos' need.length
    have hA : allS need.length = 2 ^ need.length - 1 := rfl
    have hl8 := hL.1
    have hvt := timesV_ok (b := b) hn h8 (by omega) (by omega)
    refine AWp.skip ?_
    refine AWp.seq ?_
    refine AWp.region ?_
    refine AList.c 26 rfl rfl rfl (OpJ.move rfl rfl) ?_
    refine AList.c 27 rfl rfl rfl (OpJ.move rfl rfl) ?_
    refine AList.c 28 rfl rfl rfl (OpJ.callRow 3 (btimes_row need b h0 hn h8 (by omega) (by omega)) (scI _) rfl rfl rfl rfl rfl rf33) ?_
    refine AList.c 9 rfl rfl rfl (OpJ.allocOwn rfl zr22 rfl) ?_
    refine AList.c0 rfl rfl (OpJ.store rfl rfl rfl rfl rfl ty22 rfl rfl) ?_
    refine AList.nil ?_
    refine AWp.seq ?_
    refine AWp.seq ?_
    refine AWp.region ?_
    refine AList.c 29 rfl rfl rfl (OpJ.load rfl rfl ty22 rfl) ?_
    refine AList.c 30 rfl rfl rfl (OpJ.move rfl rfl) ?_
    refine AList.c 31 rfl rfl rfl (OpJ.callB 3 (can_L (timesV need b) (toPl l) need.length (toPl l).length (timesV_length _ _) rfl h0 hvt hL) rfl rfl rfl rfl rfl (mapO.c (brwRow rfl) (mapO.c brwP mapO.n)) rf32) ?_
    refine AList.c 32 rfl rfl rfl (OpJ.not_ rfl rfl) ?_
    refine AList.nil ?_
    refine AWp.cond _ rfl (fun hc1 => ?_) (fun hc1 => ?_)
    · skip
      have hz : ¬ (lkF (timesV need b) (toPl l) (allS need.length)).2 = 0 := by simpa using hc1
      refine AWp.seq ?_
      refine AWp.region ?_
      refine AList.c 6 rfl rfl rfl (OpJ.assign rfl rfl) ?_
      refine AList.c 7 rfl rfl rfl (OpJ.assign rfl rfl) ?_
      refine AList.nil ?_
      refine AWp.to (To.nilIs 6 rfl) ?_
      refine AWp.ret ?_
      have e : fillR need l b = ([], 10) := by unfold fillR; rw [if_pos hc, if_neg hz]
      rw [e]
      exact Fin.many (xs := [.is [] 0, .int .i64 10]) rfl (⟨_, _, rfl, rfl, ⟨_, _, rfl, rfl, rfl⟩⟩) rfl
    · skip
      have hz : (lkF (timesV need b) (toPl l) (allS need.length)).2 = 0 := by simpa using hc1
      have hLI := LInv.ok hL hn h8 (by omega) (by omega) hz
      refine AWp.skip ?_
      refine AWp.seq ?_
      refine AWp.region ?_
      refine AList.c 10 rfl rfl rfl (OpJ.allocOwn rfl zr73 rfl) ?_
      refine AList.nil ?_
      refine AWp.seq ?_
      refine AWp.seq ?_
      refine AWp.region ?_
      refine AList.c 33 rfl rfl rfl (OpJ.move rfl rfl) ?_
      refine AList.c 34 rfl rfl rfl (OpJ.lenSlice rfl rfl sl23 rfl) ?_
      refine AList.c 35 rfl rfl rfl (OpJ.move rfl rfl) ?_
      refine AList.nil ?_
      refine AWp.block ?_
      refine AWp.loopHL [0, 1, 6, 7, 9, 10, 17, 18, 34, 99, 100, 101, 102, 103, 104, 105, 106, 107, 108, 109, 110, 111, 112, 113, 114, 115, 116, 117] (fun g => [(35, .p (.int .i64 ((g : Nat) : Int)))]) (fun g => [.row (((leftF (toPl l) need.length (timesV need b) g).flatMap i1).map .p) 3, .cells [.row 0 need.length] 22, .cells (((soldS (rowsF (toPl l) need.length (timesV need b) g)).flatMap i1).map .p) 73]) (fun g => g ≤ (toPl l).length) (fun g => (toPl l).length - g) 0 (Nat.zero_le _) (To.sub (Sub.chk (Sub.cons rfl Sub.nil))) (fun i hg => ?_)
      refine AWp.seq ?_
      refine AWp.region ?_
      refine AList.c 36 rfl rfl rfl (OpJ.lss rfl rfl rfl) ?_
      refine AList.nil ?_
      refine AWp.seq ?_
      refine AWp.cond _ rfl (fun hc2 => ?_) (fun hc2 => ?_)
      · skip
        have hk0 : i < (toPl l).length := by have h := of_decide_eq_true hc2; omega
        have hdr : (toPl l).drop i = (toPl l)[i] :: (toPl l).drop (i + 1) := List.drop_eq_getElem_cons hk0
        have hR8 : ∀ x ∈ (rowsF (toPl l) need.length (timesV need b) i), x.length ≤ 8 := fun x hx => by rw [rowsF_mem hL hLI (by omega) x hx]; exact h8
        refine AWp.skip ?_
        refine AWp.seq ?_
        refine AWp.block ?_
        refine AWp.seq ?_
        refine AWp.region ?_
        refine AList.c 37 rfl rfl rfl (OpJ.move rfl rfl) ?_
        refine AList.c 11 rfl rfl rfl (OpJ.assign rfl rfl) ?_
        refine AList.nil ?_
        refine AWp.seq ?_
        refine AWp.region ?_
        refine AList.c 38 rfl rfl rfl (OpJ.move rfl rfl) ?_
        refine AList.c 39 rfl rfl rfl (OpJ.move rfl rfl) ?_
        refine AList.c 40 rfl rfl rfl (OpJ.sliceIs (l := i) (h := (toPl l).length) (r := (((toPl l).drop i).flatMap Pl.cells)) rfl rfl sl23 el23 ⟨_, rfl⟩ rfl (by omega) (by omega) (plDrop _ _)) ?_
        refine AList.c 41 rfl rfl rfl (OpJ.callRow 3 (clonePl_L ((toPl l).drop i) ((toPl l).length - i) (List.length_drop ..) (by omega) (by omega)) (scPl _) rfl rfl rfl rfl rfl rf43) ?_
        refine AList.c 12 rfl rfl rfl (OpJ.allocOwn rfl zr23 rfl) ?_
        refine AList.c0 rfl rfl (OpJ.store rfl rfl rfl rfl rfl ty23 rfl rfl) ?_
        refine AList.nil ?_
        refine AWp.seq ?_
        refine AWp.region ?_
        refine AList.c 42 rfl rfl rfl (OpJ.load rfl rfl ty23 rfl) ?_
        refine AList.c 43 rfl rfl rfl (OpJ.indexRow (k := 0) rfl rfl rfl sl23 el23 (show 0 < (toPl l).length - i by omega)) ?_
        refine AList.c 13 rfl rfl rfl (OpJ.assign rfl rfl) ?_
        refine AList.nil ?_
        refine AWp.seq ?_
        refine AWp.region ?_
        refine AList.c 44 rfl rfl rfl (OpJ.move rfl rfl) ?_
        refine AList.c 45 rfl rfl rfl (OpJ.lenSlice rfl rfl sl22 rfl) ?_
        refine AList.c 46 rfl rfl rfl (OpJ.move rfl rfl) ?_
        refine AList.nil ?_
        refine AWp.block ?_
        refine AWp.loopHL [0, 1, 6, 7, 9, 10, 11, 12, 13, 17, 18, 34, 35, 36, 37, 38, 39, 40, 41, 42, 43, 44, 45, 98, 99, 100, 101, 102, 103, 104, 105, 106, 107, 108, 109, 110, 111, 112, 113, 114, 115, 116, 117] (fun g => [(46, .p (.int .i64 ((g : Nat) : Int)))]) (fun g => [.row (((midF (toPl l) need.length (timesV need b) i g).v.flatMap i1).map .p) 3, .cells [.row 0 need.length] 22, .cells (((soldM (rowsF (toPl l) need.length (timesV need b) i) (midF (toPl l) need.length (timesV need b) i g).row).flatMap i1).map .p) 73, .row ((((⟨(midF (toPl l) need.length (timesV need b) i g).q, (midF (toPl l) need.length (timesV need b) i g).m⟩ : Pl) :: ((toPl l).drop (i + 1))).flatMap Pl.cells).map .p) 46, .cells [.row 3 ((toPl l).length - i)] 23]) (fun g => g ≤ need.length) (fun g => need.length - g) 0 (Nat.zero_le _) (by rw [midF_0 hk0, hdr, soldM_open (by rw [rowsF_length]; omega) h8]; exact To.sub (Sub.chk (Sub.cons rfl Sub.nil))) (fun k hh => ?_)
        refine AWp.seq ?_
        refine AWp.region ?_
        refine AList.c 47 rfl rfl rfl (OpJ.lss rfl rfl rfl) ?_
        refine AList.nil ?_
        refine AWp.seq ?_
        refine AWp.cond _ rfl (fun hc3 => ?_) (fun hc3 => ?_)
        · skip
          have hk1 : k < need.length := by have h := of_decide_eq_true hc3; omega
          have hF := midF_inv hL hLI hk0 k (by omega)
          have hkv : k < (midF (toPl l) need.length (timesV need b) i k).v.length := by rw [hF.len]; exact hk1
          have hkr : k < (midF (toPl l) need.length (timesV need b) i k).row.length := by rw [hF.rlen]; exact hk1
          have hokv := hF.okV h8
          have hFq := hF.q
          have hFm := hF.m0
          have hpk := pow_pos' k
          have hpk8 := pow8 (show k ≤ 8 by omega)
          have hFv := hF.pos _ (List.getElem_mem hkv)
          refine AWp.skip ?_
          refine AWp.seq ?_
          refine AWp.block ?_
          refine AWp.seq ?_
          refine AWp.region ?_
          refine AList.c 48 rfl rfl rfl (OpJ.move rfl rfl) ?_
          refine AList.c 14 rfl rfl rfl (OpJ.allocOwn rfl zr3 rfl) ?_
          refine AList.c0 rfl rfl (OpJ.store rfl rfl rfl rfl rfl ty3 rfl rfl) ?_
          refine AList.nil ?_
          refine AWp.seq ?_
          refine AWp.seq ?_
          refine AWp.regionDraw 7 mixed (by kernel_rfl) (by decide) ?_
          refine AQuiet.cons 49 rfl rfl rfl (OpJ.move rfl rfl) ?_
          refine AQuiet.cons 50 rfl rfl rfl (OpJ.nilCheck rfl rfl) ?_
          refine AQuiet.cons 51 rfl rfl rfl (OpJ.fieldAddr rfl rfl fd46_0 rfl) ?_
          refine AQuiet.cons 52 rfl rfl rfl (OpJ.load rfl rfl ty3 rfl) ?_
          refine AQuiet.cons 53 rfl rfl rfl (OpJ.load rfl rfl ty3 rfl) ?_
          refine AQuiet.cons 54 rfl rfl rfl (OpJ.callP (bhas_ok (midF (toPl l) need.length (timesV need b) i k).q k (by omega) (by omega)) rfl rfl rfl rfl rf44) ?_
          refine AQuiet.cons 55 rfl rfl rfl (OpJ.not_ rfl rfl) ?_
          refine AQuiet.nil ?_
          refine AList.nil ?_
          refine AWp.cond _ rfl (fun hc4 => ?_) (fun hc4 => ?_)
          · skip
            have hq : (midF (toPl l) need.length (timesV need b) i k).q.testBit k = false := by simpa using hc4
            refine AWp.exit ?_
            refine AWp.region ?_
            refine AList.c 97 rfl rfl rfl (OpJ.add rfl rfl rfl (i64ok ?_)) ?_
            · omega
            refine AList.c 46 rfl rfl rfl (OpJ.move rfl rfl) ?_
            refine AList.nil ?_
            refine ⟨k + 1, ?_, ?_, ?_⟩
            · omega
            · omega
            rw [midF_no hq]
            refine To.done [0, 1, 2, 3, 4] rfl (by repeat (first | exact Sub.nil | refine Sub.cons rfl ?_)) ?_
            show [Blk.row (renL _ _) _, Blk.cells _ _, Blk.cells (renL _ _) _, Blk.row (renL _ _) _, Blk.cells _ _] = _
            rw [renL_pure, renL_pure, renL_pure]
            rfl
          · skip
            have hq : (midF (toPl l) need.length (timesV need b) i k).q.testBit k = true := by simpa using hc4
            have hvk : (midF (toPl l) need.length (timesV need b) i k).v[k]?.getD 0 = (midF (toPl l) need.length (timesV need b) i k).v[k] := by simp [hkv]
            obtain ⟨n, r, hmin, hn8, hr, hrn, hcut1, hcut2⟩ := own_cut (posP_drop hL.pos (i + 1)) hF hk1 hq
            have hrr : (numF (toPl l) need.length (timesV need b) i k (allS need.length)) = (r : Int) := hr
            have hdl := dropB_lt (j := k) hFq
            have hop : okP need.length ((⟨(dropB (midF (toPl l) need.length (timesV need b) i k).q k), (midF (toPl l) need.length (timesV need b) i k).m⟩ : Pl) :: ((toPl l).drop (i + 1))) := ⟨by rw [List.length_cons, List.length_drop]; omega, fun q hq => by rcases List.mem_cons.1 hq with rfl | hq; exact ⟨hdl, hFm⟩; exact (okP_drop hL (i + 1)).2 q hq⟩
            have hks : i * 8 + k < (soldM (rowsF (toPl l) need.length (timesV need b) i) (midF (toPl l) need.length (timesV need b) i k).row).length := by rw [soldM_len hR8 (by rw [hF.rlen]; exact h8) (by rw [rowsF_length]; omega)]; omega
            have hset : (soldM (rowsF (toPl l) need.length (timesV need b) i) (midF (toPl l) need.length (timesV need b) i k).row).set (i * 8 + k) (numF (toPl l) need.length (timesV need b) i k (allS need.length)) = soldM (rowsF (toPl l) need.length (timesV need b) i) ((midF (toPl l) need.length (timesV need b) i k).row.set k (numF (toPl l) need.length (timesV need b) i k (allS need.length))) := by have h := soldM_set (n := (numF (toPl l) need.length (timesV need b) i k (allS need.length))) hR8 (by rw [hF.rlen]; exact h8) hkr; rwa [rowsF_length] at h
            refine AWp.skip ?_
            refine AWp.seq ?_
            refine AWp.regionDraw 9 mixed (by kernel_rfl) (by decide) ?_
            refine AQuiet.cons 56 rfl rfl rfl (OpJ.move rfl rfl) ?_
            refine AQuiet.cons 57 rfl rfl rfl (OpJ.nilCheck rfl rfl) ?_
            refine AQuiet.cons 58 rfl rfl rfl (OpJ.fieldAddr rfl rfl fd46_0 rfl) ?_
            refine AQuiet.cons 59 rfl rfl rfl (OpJ.load rfl rfl ty3 rfl) ?_
            refine AQuiet.cons 60 rfl rfl rfl (OpJ.load rfl rfl ty3 rfl) ?_
            refine AQuiet.cons 61 rfl rfl rfl (OpJ.shlN 1 k rfl rfl rfl (by show _ ≤ (64 : Nat); omega) (show ((1 * 2 ^ k : Nat) : Int) ≤ 9223372036854775807 by omega)) ?_
            refine AQuiet.cons 62 rfl rfl rfl (OpJ.andNotN (midF (toPl l) need.length (timesV need b) i k).q (1 * 2 ^ k) rfl rfl rfl (by show _ ≤ (9223372036854775807 : Int); omega)) ?_
            refine AQuiet.cons 63 rfl rfl rfl (OpJ.nilCheck rfl rfl) ?_
            refine AQuiet.cons 64 rfl rfl rfl (OpJ.fieldAddr rfl rfl fd46_0 rfl) ?_
            refine AQuiet.nil ?_
            refine AList.c0 rfl rfl (OpJ.storeRow (f := Pl.cells) (c := 2) (k := 0) (j := 0) (xs := ((⟨(midF (toPl l) need.length (timesV need b) i k).q, (midF (toPl l) need.length (timesV need b) i k).m⟩ : Pl) :: ((toPl l).drop (i + 1)))) (z := (⟨((midF (toPl l) need.length (timesV need b) i k).q ^^^ ((midF (toPl l) need.length (timesV need b) i k).q &&& 1 * 2 ^ k)), (midF (toPl l) need.length (timesV need b) i k).m⟩ : Pl)) (ws := [_]) rfl rfl rfl rfl rfl ty3 rfl rfl rfl (by omega) (fun _ => rfl) (Nat.succ_pos _) (Nat.le_of_ble_eq_true rfl) rfl) ?_
            refine AList.nil ?_
            refine AWp.seq ?_
            refine AWp.region ?_
            rw [xor_pow hq]
            refine AList.c 65 rfl rfl rfl (OpJ.makeFunc rfl rfl rfl) ?_
            refine AList.c 15 rfl rfl rfl (OpJ.assign rfl rfl) ?_
            refine AList.nil ?_
            refine AWp.seq ?_
            refine AWp.regionDraw 12 mixed (by kernel_rfl) (by decide) ?_
            refine AQuiet.cons 66 rfl rfl rfl (OpJ.move rfl rfl) ?_
            refine AQuiet.cons 67 rfl rfl rfl (OpJ.nilCheck rfl rfl) ?_
            refine AQuiet.cons 68 rfl rfl rfl (OpJ.fieldAddr rfl rfl fd46_1 rfl) ?_
            refine AQuiet.cons 69 rfl rfl rfl (OpJ.load rfl rfl ty3 rfl) ?_
            refine AQuiet.cons 70 rfl rfl rfl (OpJ.load rfl rfl ty22 rfl) ?_
            refine AQuiet.cons 71 rfl rfl rfl (OpJ.load rfl rfl ty3 rfl) ?_
            refine AQuiet.cons 72 rfl rfl rfl (OpJ.indexRow rfl rfl rfl sl22 el22 hk1) ?_
            refine AQuiet.cons 73 rfl rfl rfl (OpJ.loadFlat (f := i1) (c := 1) (k := k) (j := 0) (xs := (midF (toPl l) need.length (timesV need b) i k).v) rfl rfl ty3 rfl rfl (by omega) (fun _ => rfl) hkv (by decide) (show _ = PV.int .i64 ((midF (toPl l) need.length (timesV need b) i k).v[k]?.getD 0) from by rw [List.getElem?_eq_getElem hkv]; rfl)) ?_
            refine AQuiet.cons 74 rfl rfl rfl (OpJ.min2 rfl rfl rfl) ?_
            rw [hmin]
            refine AQuiet.cons 75 rfl rfl rfl (OpJ.move rfl rfl) ?_
            refine AQuiet.cons 76 rfl rfl rfl (OpJ.callB 3 (great_ok n r (.func 45) [] [.ip [.is ((midF (toPl l) need.length (timesV need b) i k).v.flatMap i1) need.length] 0, .ip [.int .i64 (k : Int)] 0, .ip [.is (((⟨(dropB (midF (toPl l) need.length (timesV need b) i k).q k), (midF (toPl l) need.length (timesV need b) i k).m⟩ : Pl) :: ((toPl l).drop (i + 1))).flatMap Pl.cells) ((toPl l).length - i)] 0] (fun e => ownB need.length (midF (toPl l) need.length (timesV need b) i k).v (dropB (midF (toPl l) need.length (timesV need b) i k).q k) (midF (toPl l) need.length (timesV need b) i k).m ((toPl l).drop (i + 1)) k e) hn8 hrn hcut1 hcut2 (fun e he => ⟨45, .int .i64 ((e + 1 : Nat) : Int) :: [.ip [.is ((midF (toPl l) need.length (timesV need b) i k).v.flatMap i1) need.length] 0, .ip [.int .i64 (k : Int)] 0, .ip [.is (((⟨(dropB (midF (toPl l) need.length (timesV need b) i k).q k), (midF (toPl l) need.length (timesV need b) i k).m⟩ : Pl) :: ((toPl l).drop (i + 1))).flatMap Pl.cells) ((toPl l).length - i)] 0], rfl, rf45, fill1_ok (midF (toPl l) need.length (timesV need b) i k).v need.length ((toPl l).length - i) k (e + 1) ⟨(dropB (midF (toPl l) need.length (timesV need b) i k).q k), (midF (toPl l) need.length (timesV need b) i k).m⟩ ((toPl l).drop (i + 1)) hF.len (by rw [List.length_cons, List.length_drop]; omega) h8 hk1 hokv hop (by show ((e + 1 : Nat) : Int) ≤ (midF (toPl l) need.length (timesV need b) i k).m; omega)⟩)) rfl rfl rfl rfl rfl (mapO.c brwP (mapO.c (brwFunc mapO.n (mapO.c (brwPtrV rfl (brwRow rfl)) (mapO.c (brwPtrV rfl brwP) (mapO.c (brwPtrV rfl (brwRow rfl)) mapO.n)))) mapO.n)) rf30) ?_
            rw [← hrr]
            refine AQuiet.cons 16 rfl rfl rfl (OpJ.assign rfl rfl) ?_
            refine AQuiet.nil ?_
            refine AList.nil ?_
            refine AWp.seq ?_
            refine AWp.regionDraw 5 mixed (by kernel_rfl) (by decide) ?_
            refine AQuiet.cons 77 rfl rfl rfl (OpJ.move rfl rfl) ?_
            refine AQuiet.cons 78 rfl rfl rfl (OpJ.load rfl rfl ty3 rfl) ?_
            refine AQuiet.cons 79 rfl rfl rfl (OpJ.move rfl rfl) ?_
            refine AQuiet.cons 80 rfl rfl rfl (OpJ.indexArrI rfl rfl rfl ar73 el73 (by omega)) ?_
            refine AQuiet.cons 81 rfl rfl rfl (OpJ.indexArrI rfl rfl rfl ar72 el72 (by omega)) ?_
            refine AQuiet.nil ?_
            refine AList.c0 rfl rfl (OpJ.storeCells (f := i1) (c := 1) (k := (i * 8 + k)) (j := 0) (xs := (soldM (rowsF (toPl l) need.length (timesV need b) i) (midF (toPl l) need.length (timesV need b) i k).row)) (z := (numF (toPl l) need.length (timesV need b) i k (allS need.length))) (ws := [_]) rfl rfl rfl rfl rfl ty3 rfl rfl rfl (by omega) (fun _ => rfl) hks (Nat.le_of_ble_eq_true rfl) rfl) ?_
            refine AList.nil ?_
            refine AWp.seq ?_
            refine AWp.region ?_
            refine AList.c 82 rfl rfl rfl (OpJ.load rfl rfl ty22 rfl) ?_
            refine AList.c 83 rfl rfl rfl (OpJ.load rfl rfl ty3 rfl) ?_
            refine AList.c 84 rfl rfl rfl (OpJ.indexRow rfl rfl rfl sl22 el22 hk1) ?_
            refine AList.c 85 rfl rfl rfl (OpJ.loadFlat (f := i1) (c := 1) (k := k) (j := 0) (xs := (midF (toPl l) need.length (timesV need b) i k).v) rfl rfl ty3 rfl rfl (by omega) (fun _ => rfl) hkv (by decide) (show _ = PV.int .i64 ((midF (toPl l) need.length (timesV need b) i k).v[k]?.getD 0) from by rw [List.getElem?_eq_getElem hkv]; rfl)) ?_
            refine AList.c 86 rfl rfl rfl (OpJ.move rfl rfl) ?_
            refine AList.c 87 rfl rfl rfl (OpJ.sub_ rfl rfl rfl (i64ok ?_)) ?_
            · omega
            refine AList.c 88 rfl rfl rfl (OpJ.indexRow rfl rfl rfl sl22 el22 hk1) ?_
            refine AList.c0 rfl rfl (OpJ.storeRow (f := i1) (c := 1) (k := k) (j := 0) (xs := (midF (toPl l) need.length (timesV need b) i k).v) (z := ((midF (toPl l) need.length (timesV need b) i k).v[k]?.getD 0 - (numF (toPl l) need.length (timesV need b) i k (allS need.length)))) (ws := [_]) rfl rfl rfl rfl rfl ty3 rfl rfl rfl (by omega) (fun _ => rfl) hkv (Nat.le_of_ble_eq_true rfl) rfl) ?_
            refine AList.nil ?_
            refine AWp.region ?_
            refine AList.c 89 rfl rfl rfl (OpJ.move rfl rfl) ?_
            refine AList.c 90 rfl rfl rfl (OpJ.nilCheck rfl rfl) ?_
            refine AList.c 91 rfl rfl rfl (OpJ.fieldAddr rfl rfl fd46_1 rfl) ?_
            refine AList.c 92 rfl rfl rfl (OpJ.loadFlat (f := Pl.cells) (c := 2) (k := 0) (j := 1) (xs := ((⟨(dropB (midF (toPl l) need.length (timesV need b) i k).q k), (midF (toPl l) need.length (timesV need b) i k).m⟩ : Pl) :: ((toPl l).drop (i + 1)))) rfl rfl ty3 rfl rfl (by omega) (fun _ => rfl) (Nat.succ_pos _) (by decide) (show _ = PV.int .i64 (midF (toPl l) need.length (timesV need b) i k).m from rfl)) ?_
            refine AList.c 93 rfl rfl rfl (OpJ.move rfl rfl) ?_
            refine AList.c 94 rfl rfl rfl (OpJ.sub_ rfl rfl rfl (i64ok ?_)) ?_
            · omega
            refine AList.c 95 rfl rfl rfl (OpJ.nilCheck rfl rfl) ?_
            refine AList.c 96 rfl rfl rfl (OpJ.fieldAddr rfl rfl fd46_1 rfl) ?_
            refine AList.c0 rfl rfl (OpJ.storeRow (f := Pl.cells) (c := 2) (k := 0) (j := 1) (xs := ((⟨(dropB (midF (toPl l) need.length (timesV need b) i k).q k), (midF (toPl l) need.length (timesV need b) i k).m⟩ : Pl) :: ((toPl l).drop (i + 1)))) (z := (⟨(dropB (midF (toPl l) need.length (timesV need b) i k).q k), (midF (toPl l) need.length (timesV need b) i k).m - (numF (toPl l) need.length (timesV need b) i k (allS need.length))⟩ : Pl)) (ws := [_]) rfl rfl rfl rfl rfl ty3 rfl rfl rfl (by omega) (fun _ => rfl) (Nat.succ_pos _) (Nat.le_of_ble_eq_true rfl) rfl) ?_
            refine AList.nil ?_
            refine AWp.region ?_
            refine AList.c 97 rfl rfl rfl (OpJ.add rfl rfl rfl (i64ok ?_)) ?_
            · omega
            refine AList.c 46 rfl rfl rfl (OpJ.move rfl rfl) ?_
            refine AList.nil ?_
            refine ⟨k + 1, ?_, ?_, ?_⟩
            · omega
            · omega
            rw [midF_yes hq, hset]
            refine To.done [0, 1, 2, 3, 4] rfl (by repeat (first | exact Sub.nil | refine Sub.cons rfl ?_)) ?_
            show [Blk.row (renL _ _) _, Blk.cells _ _, Blk.cells (renL _ _) _, Blk.row (renL _ _) _, Blk.cells _ _] = _
            rw [renL_pure, renL_pure, renL_pure]
            rfl
        · skip
          obtain rfl : k = need.length := by have h := of_decide_eq_false hc3; omega
          refine AWp.exit ?_
          refine AWp.region ?_
          refine AList.c 98 rfl rfl rfl (OpJ.add rfl rfl rfl (i64ok ?_)) ?_
          · omega
          refine AList.c 35 rfl rfl rfl (OpJ.move rfl rfl) ?_
          refine AList.nil ?_
          refine ⟨i + 1, ?_, ?_, ?_⟩
          · omega
          · omega
          refine To.done [0, 1, 2] rfl (by repeat (first | exact Sub.nil | refine Sub.cons rfl ?_)) ?_
          show [Blk.row (renL _ _) _, Blk.cells _ _, Blk.cells (renL _ _) _] = _
          rw [renL_pure, renL_pure, rowsF_succ, ← soldM_close]
          rfl
      · skip
        obtain rfl : i = (toPl l).length := by have h := of_decide_eq_false hc2; omega
        have hRm := rowsF_mem hL hLI (Nat.le_refl (toPl l).length)
        have hRl := rowsF_length (toPl l) need.length (timesV need b) (toPl l).length
        refine AWp.freeze 2 rfl (allP_map _) ?_
        refine AWp.exit ?_
        refine AWp.seq ?_
        refine AWp.region ?_
        refine AList.c 99 rfl rfl rfl (OpJ.move rfl rfl) ?_
        refine AList.c 100 rfl rfl rfl (OpJ.lenSlice rfl rfl sl23 rfl) ?_
        refine AList.c 101 rfl rfl rfl (OpJ.makeSlice (n := (toPl l).length) (c := (toPl l).length) rfl rfl rfl slz31 by22 (by decide) (Nat.le_refl _) (by omega)) ?_
        rw [outsF_0 need.length (toPl l).length (rowsF (toPl l) need.length (timesV need b) (toPl l).length), ← oneC_flat (outsF need.length (rowsF (toPl l) need.length (timesV need b) (toPl l).length) (toPl l).length 0)]
        refine AList.c 17 rfl rfl rfl (OpJ.assign rfl rfl) ?_
        refine AList.nil ?_
        refine AWp.seq ?_
        refine AWp.seq ?_
        refine AWp.region ?_
        refine AList.c 102 rfl rfl rfl (OpJ.move rfl rfl) ?_
        refine AList.c 103 rfl rfl rfl (OpJ.lenSlice rfl rfl sl31 rfl) ?_
        refine AList.c 104 rfl rfl rfl (OpJ.move rfl rfl) ?_
        refine AList.nil ?_
        refine AWp.block ?_
        refine AWp.loopHL [0, 6, 7, 10, 17, 103, 117] (fun g => [(104, .p (.int .i64 ((g : Nat) : Int)))]) (fun g => [.row (((leftF (toPl l) need.length (timesV need b) (toPl l).length).flatMap i1).map .p) 3, .cells [.row 0 need.length] 22, .dead, .row (((outsF need.length (rowsF (toPl l) need.length (timesV need b) (toPl l).length) (toPl l).length g).flatMap oneC).map .p) 22]) (fun g => g ≤ (toPl l).length) (fun g => (toPl l).length - g) 0 (Nat.zero_le _) (To.sub (Sub.chk (Sub.cons rfl Sub.nil))) (fun j hj => ?_)
        refine AWp.seq ?_
        refine AWp.region ?_
        refine AList.c 105 rfl rfl rfl (OpJ.lss rfl rfl rfl) ?_
        refine AList.nil ?_
        refine AWp.seq ?_
        refine AWp.cond _ rfl (fun hc5 => ?_) (fun hc5 => ?_)
        · skip
          have hj0 : j < (toPl l).length := by have h := of_decide_eq_true hc5; omega
          have hjr : j < (rowsF (toPl l) need.length (timesV need b) (toPl l).length).length := by rw [hRl]; exact hj0
          have hjo : j < (outsF need.length (rowsF (toPl l) need.length (timesV need b) (toPl l).length) (toPl l).length j).length := by rw [outsF_len hRl (by omega)]; exact hj0
          refine AWp.skip ?_
          refine AWp.seq ?_
          refine AWp.block ?_
          refine AWp.seq ?_
          refine AWp.region ?_
          refine AList.c 106 rfl rfl rfl (OpJ.move rfl rfl) ?_
          refine AList.c 18 rfl rfl rfl (OpJ.assign rfl rfl) ?_
          refine AList.nil ?_
          refine AWp.region ?_
          refine AList.c 107 rfl rfl rfl (OpJ.move rfl rfl) ?_
          refine AList.c 108 rfl rfl rfl (OpJ.move rfl rfl) ?_
          refine AList.c 109 rfl rfl rfl (OpJ.move rfl rfl) ?_
          refine AList.c 110 rfl rfl rfl (OpJ.indexArr rfl rfl rfl ar73 el73 (by omega) (by omega) rfl) ?_
          refine AList.c 111 rfl rfl rfl (OpJ.move rfl rfl) ?_
          refine AList.c 112 rfl rfl rfl (OpJ.lenSlice rfl rfl sl22 rfl) ?_
          refine AList.c 113 rfl rfl rfl (OpJ.sliceArr (l := 0) (h := need.length) (r := ((rowsF (toPl l) need.length (timesV need b) (toPl l).length)[j].flatMap i1)) rfl rfl ar72 el72 rfl ⟨_, rfl⟩ (by omega) (by omega) (soldS_cut hRm h8 hjr)) ?_
          refine AList.c 114 rfl rfl rfl (OpJ.callRow 3 (clone_L (rowsF (toPl l) need.length (timesV need b) (toPl l).length)[j] need.length (hRm _ (List.getElem_mem _)) h0 h8) (scI _) rfl rfl rfl rfl rfl rf46) ?_
          refine AList.freeze 4 rfl (allP_map _) ?_
          refine AList.c 115 rfl rfl rfl (OpJ.indexRow rfl rfl rfl sl31 el31 hj0) ?_
          refine AList.c0 rfl rfl (OpJ.storeRow (f := oneC) (c := 1) (k := j) (j := 0) (xs := (outsF need.length (rowsF (toPl l) need.length (timesV need b) (toPl l).length) (toPl l).length j)) (z := (.is ((rowsF (toPl l) need.length (timesV need b) (toPl l).length)[j].flatMap i1) need.length)) (ws := [_]) rfl rfl rfl rfl rfl ty22 rfl rfl rfl (by omega) (fun _ => rfl) hjo (Nat.le_of_ble_eq_true rfl) rfl) ?_
          refine AList.nil ?_
          refine AWp.region ?_
          refine AList.c 116 rfl rfl rfl (OpJ.add rfl rfl rfl (i64ok ?_)) ?_
          · omega
          refine AList.c 104 rfl rfl rfl (OpJ.move rfl rfl) ?_
          refine AList.nil ?_
          refine ⟨j + 1, ?_, ?_, ?_⟩
          · omega
          · omega
          refine To.done [0, 1, 2, 3] rfl (by repeat (first | exact Sub.nil | refine Sub.cons rfl ?_)) ?_
          show [Blk.row (renL _ _) _, _, _, Blk.row (renL _ _) _] = _
          rw [renL_pure, renL_pure, outsF_set hRl hj0]
          rfl
        · skip
          obtain rfl : j = (toPl l).length := by have h := of_decide_eq_false hc5; omega
          refine AWp.freeze 3 rfl (allP_map _) ?_
          refine AWp.exit ?_
          refine AWp.seq ?_
          refine AWp.region ?_
          refine AList.c 117 rfl rfl rfl (OpJ.move rfl rfl) ?_
          refine AList.c 6 rfl rfl rfl (OpJ.assign rfl rfl) ?_
          refine AList.c 7 rfl rfl rfl (OpJ.assign rfl rfl) ?_
          refine AList.nil ?_
          refine AWp.ret ?_
          have e : fillR need l b = ((rowsF (toPl l) need.length (timesV need b) (toPl l).length), 0) := by unfold fillR; rw [if_pos hc, if_pos hz]
          rw [e]
          refine Fin.manyE (xs := [.is ((outsF need.length (rowsF (toPl l) need.length (timesV need b) (toPl l).length) (toPl l).length (toPl l).length).flatMap oneC) (toPl l).length, .int .i64 0]) rfl (⟨_, _, rfl, rfl, ⟨_, _, rfl, rfl, rfl⟩⟩) rfl ?_
          unfold rowsV; rw [hRl, oneC_flat, outsF_all hRl]
end Go.Proofs.Ytpamkihpffoflaa
