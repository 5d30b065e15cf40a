/-
  Rows that are the same; how many pencils of a pile are needed, in the other text.
-/
import Derived.Test.YtpamkihpffoflaaBxFactsB
import Derived.Test.YtpamkihpffoflaaBx14
set_option linter.unusedVariables false
set_option maxRecDepth 100000
set_option maxHeartbeats 4000000
set_option linter.unusedSimpArgs false
namespace Go.Proofs.Ytpamkihpffoflaa
open Go.AF
theorem rows_ok (L : Nat) (xs ys : List (List Int)) (hx : ∀ r ∈ xs, r.length = L) (hy : ∀ r ∈ ys, r.length = L) (hL : L ≤ bigN) (hxl : xs.length ≤ bigN) : Pure Try.prog 20 [rowsV L xs, rowsV L ys] (.bool (decide (xs = ys))) := by
  unfold bigN at hL hxl
  refine Pure.start (N := 53) Try.func20 rfl rfl (Nat.le_of_ble_eq_true rfl) ?_
  refine AWp.seq ?_
  refine AWp.region ?_
  refine AList.c 4 rfl rfl rfl (OpJ.assign rfl rfl) ?_
  refine AList.nil ?_
  refine AWp.seq ?_
  refine AWp.seq ?_
  refine AWp.region ?_
  refine AList.c 7 rfl rfl rfl (OpJ.move rfl rfl) ?_
  refine AList.c 8 rfl rfl rfl (OpJ.lenSlice rfl rfl sl31 rfl) ?_
  refine AList.c 9 rfl rfl rfl (OpJ.move rfl rfl) ?_
  refine AList.c 10 rfl rfl rfl (OpJ.lenSlice rfl rfl sl31 rfl) ?_
  refine AList.c 11 rfl rfl rfl (OpJ.neq rfl rfl rfl) ?_
  refine AList.nil ?_
  refine AWp.cond _ rfl (fun hc0 => ?_) (fun hc0 => ?_)
  · skip
    have hne : xs.length ≠ ys.length := by simp at hc0; omega
    refine AWp.seq ?_
    refine AWp.region ?_
    refine AList.c 4 rfl rfl rfl (OpJ.assign rfl rfl) ?_
    refine AList.nil ?_
    refine AWp.ret ?_
    refine Fin.oneE rfl rfl ?_
    rw [decide_eq_false (p := xs = ys) (fun h => hne (by rw [h]))]
  · skip
    have hle : xs.length = ys.length := by simp at hc0; omega
    refine AWp.skip ?_
    refine AWp.seq ?_
    refine AWp.seq ?_
    refine AWp.region ?_
    refine AList.c 5 rfl rfl rfl (OpJ.assign rfl rfl) ?_
    refine AList.nil ?_
    refine AWp.block ?_
    refine AWp.loopKL [0, 1] (fun g => [(5, .p (.int .i64 ((g : Nat) : Int)))]) (fun g => g ≤ xs.length ∧ xs.take g = ys.take g) (fun g => xs.length - g) 0 ⟨Nat.zero_le _, rfl⟩ (Sub.cons rfl (Sub.nil)) (fun i hg => ?_)
    obtain ⟨hg1, hg2⟩ := hg
    refine AWp.seq ?_
    refine AWp.seq ?_
    refine AWp.region ?_
    refine AList.c 12 rfl rfl rfl (OpJ.move rfl rfl) ?_
    refine AList.c 13 rfl rfl rfl (OpJ.move rfl rfl) ?_
    refine AList.c 14 rfl rfl rfl (OpJ.lenSlice rfl rfl sl31 rfl) ?_
    refine AList.c 15 rfl rfl rfl (OpJ.lss rfl rfl rfl) ?_
    refine AList.nil ?_
    refine AWp.cond _ rfl (fun hc1 => ?_) (fun hc1 => ?_)
    · skip
      have hi0 : i < xs.length := by have h := of_decide_eq_true hc1; omega
      have hi1 : i < ys.length := by omega
      have hxi : L = xs[i].length := (hx _ (List.getElem_mem _)).symm
      have hyi : L = ys[i].length := (hy _ (List.getElem_mem _)).symm
      refine AWp.skip ?_
      refine AWp.seq ?_
      refine AWp.block ?_
      refine AWp.seq ?_
      refine AWp.seq ?_
      refine AWp.regionDraw 11 mixed (by kernel_rfl) (by decide) ?_
      refine AQuiet.cons 18 rfl rfl rfl (OpJ.move rfl rfl) ?_
      refine AQuiet.cons 19 rfl rfl rfl (OpJ.move rfl rfl) ?_
      refine AQuiet.cons 20 rfl rfl rfl (OpJ.indexEl rfl rfl rfl sl31 el31 rfl (fun _ => rfl) (by decide) hi0) ?_
      refine AQuiet.cons 21 rfl rfl rfl (OpJ.load rfl rfl ty22 rfl) ?_
      refine AQuiet.cons 22 rfl rfl rfl (OpJ.lenSlice rfl rfl sl22 rfl) ?_
      refine AQuiet.cons 23 rfl rfl rfl (OpJ.move rfl rfl) ?_
      refine AQuiet.cons 24 rfl rfl rfl (OpJ.move rfl rfl) ?_
      refine AQuiet.cons 25 rfl rfl rfl (OpJ.indexEl rfl rfl rfl sl31 el31 rfl (fun _ => rfl) (by decide) hi1) ?_
      refine AQuiet.cons 26 rfl rfl rfl (OpJ.load rfl rfl ty22 rfl) ?_
      refine AQuiet.cons 27 rfl rfl rfl (OpJ.lenSlice rfl rfl sl22 rfl) ?_
      refine AQuiet.cons 28 rfl rfl rfl (OpJ.neq rfl rfl rfl) ?_
      refine AQuiet.nil ?_
      refine AList.nil ?_
      refine AWp.cond _ rfl (fun hc2 => ?_) (fun hc2 => ?_)
      · skip
        simp at hc2
      · skip
        refine AWp.skip ?_
        refine AWp.seq ?_
        refine AWp.region ?_
        refine AList.c 6 rfl rfl rfl (OpJ.assign rfl rfl) ?_
        refine AList.nil ?_
        refine AWp.block ?_
        refine AWp.loopKL [0, 1, 5, 12, 13, 14, 15, 16, 17, 18, 19, 20, 21, 22, 23, 24, 25, 26, 27, 28] (fun g => [(6, .p (.int .i64 ((g : Nat) : Int)))]) (fun g => g ≤ L ∧ xs[i].take g = ys[i].take g) (fun g => L - g) 0 ⟨Nat.zero_le _, rfl⟩ (Sub.cons rfl (Sub.nil)) (fun k hh => ?_)
        obtain ⟨hh1, hh2⟩ := hh
        refine AWp.seq ?_
        refine AWp.seq ?_
        refine AWp.region ?_
        refine AList.c 29 rfl rfl rfl (OpJ.move rfl rfl) ?_
        refine AList.c 30 rfl rfl rfl (OpJ.move rfl rfl) ?_
        refine AList.c 31 rfl rfl rfl (OpJ.move rfl rfl) ?_
        refine AList.c 32 rfl rfl rfl (OpJ.indexEl rfl rfl rfl sl31 el31 rfl (fun _ => rfl) (by decide) hi0) ?_
        refine AList.c 33 rfl rfl rfl (OpJ.load rfl rfl ty22 rfl) ?_
        refine AList.c 34 rfl rfl rfl (OpJ.lenSlice rfl rfl sl22 rfl) ?_
        refine AList.c 35 rfl rfl rfl (OpJ.lss rfl rfl rfl) ?_
        refine AList.nil ?_
        refine AWp.cond _ rfl (fun hc3 => ?_) (fun hc3 => ?_)
        · skip
          have hkL : k < L := by have h := of_decide_eq_true hc3; omega
          have hk0 : k < xs[i].length := by omega
          have hk1 : k < ys[i].length := by omega
          refine AWp.skip ?_
          refine AWp.seq ?_
          refine AWp.block ?_
          refine AWp.seq ?_
          refine AWp.regionDraw 15 mixed (by kernel_rfl) (by decide) ?_
          refine AQuiet.cons 38 rfl rfl rfl (OpJ.move rfl rfl) ?_
          refine AQuiet.cons 39 rfl rfl rfl (OpJ.move rfl rfl) ?_
          refine AQuiet.cons 40 rfl rfl rfl (OpJ.indexEl rfl rfl rfl sl31 el31 rfl (fun _ => rfl) (by decide) hi0) ?_
          refine AQuiet.cons 41 rfl rfl rfl (OpJ.load rfl rfl ty22 rfl) ?_
          refine AQuiet.cons 42 rfl rfl rfl (OpJ.move rfl rfl) ?_
          refine AQuiet.cons 43 rfl rfl rfl (OpJ.indexEl rfl rfl rfl sl22 el22 hxi (fun _ => rfl) (by decide) hk0) ?_
          refine AQuiet.cons 44 rfl rfl rfl (OpJ.load rfl rfl ty3 rfl) ?_
          refine AQuiet.cons 45 rfl rfl rfl (OpJ.move rfl rfl) ?_
          refine AQuiet.cons 46 rfl rfl rfl (OpJ.move rfl rfl) ?_
          refine AQuiet.cons 47 rfl rfl rfl (OpJ.indexEl rfl rfl rfl sl31 el31 rfl (fun _ => rfl) (by decide) hi1) ?_
          refine AQuiet.cons 48 rfl rfl rfl (OpJ.load rfl rfl ty22 rfl) ?_
          refine AQuiet.cons 49 rfl rfl rfl (OpJ.move rfl rfl) ?_
          refine AQuiet.cons 50 rfl rfl rfl (OpJ.indexEl rfl rfl rfl sl22 el22 hyi (fun _ => rfl) (by decide) hk1) ?_
          refine AQuiet.cons 51 rfl rfl rfl (OpJ.load rfl rfl ty3 rfl) ?_
          refine AQuiet.cons 52 rfl rfl rfl (OpJ.neq rfl rfl rfl) ?_
          refine AQuiet.nil ?_
          refine AList.nil ?_
          refine AWp.cond _ rfl (fun hc4 => ?_) (fun hc4 => ?_)
          · skip
            have h4 : xs[i][k] ≠ ys[i][k] := by simpa using hc4
            refine AWp.seq ?_
            refine AWp.region ?_
            refine AList.c 4 rfl rfl rfl (OpJ.assign rfl rfl) ?_
            refine AList.nil ?_
            refine AWp.ret ?_
            refine Fin.oneE rfl rfl ?_
            rw [decide_eq_false (p := xs = ys) (fun h => h4 (by subst h; rfl))]
          · skip
            have h4 : xs[i][k] = ys[i][k] := by simpa using hc4
            refine AWp.skip ?_
            refine AWp.region ?_
            refine AList.c 36 rfl rfl rfl (OpJ.move rfl rfl) ?_
            refine AList.c 37 rfl rfl rfl (OpJ.add rfl rfl rfl (i64ok ?_)) ?_
            · omega
            refine AList.c 6 rfl rfl rfl (OpJ.assign rfl rfl) ?_
            refine AList.nil ?_
            refine ⟨k + 1, ?_, ?_, ?_⟩
            · refine ⟨by omega, ?_⟩
              rw [← List.take_append_getElem hk0, ← List.take_append_getElem hk1, hh2, h4]
            · omega
            exact To.done [] rfl (by repeat (first | exact Sub.nil | refine Sub.cons rfl ?_)) rfl
        · skip
          obtain rfl : k = L := by have h := of_decide_eq_false hc3; omega
          refine AWp.exit ?_
          refine AWp.region ?_
          refine AList.c 16 rfl rfl rfl (OpJ.move rfl rfl) ?_
          refine AList.c 17 rfl rfl rfl (OpJ.add rfl rfl rfl (i64ok ?_)) ?_
          · omega
          refine AList.c 5 rfl rfl rfl (OpJ.assign rfl rfl) ?_
          refine AList.nil ?_
          refine ⟨i + 1, ?_, ?_, ?_⟩
          · refine ⟨by omega, ?_⟩
            rw [← List.take_append_getElem hi0, ← List.take_append_getElem hi1, hg2]
            congr 2
            have hh3 := hh2
            rwa [List.take_of_length_le (by omega), List.take_of_length_le (by omega)] at hh3
          · omega
          exact To.done [] rfl (by repeat (first | exact Sub.nil | refine Sub.cons rfl ?_)) rfl
    · skip
      obtain rfl : i = xs.length := by have h := of_decide_eq_false hc1; omega
      refine AWp.exit ?_
      refine AWp.seq ?_
      refine AWp.region ?_
      refine AList.c 4 rfl rfl rfl (OpJ.assign rfl rfl) ?_
      refine AList.nil ?_
      refine AWp.ret ?_
      refine Fin.oneE rfl rfl ?_
      rw [List.take_of_length_le (Nat.le_refl _), List.take_of_length_le (by omega)] at hg2
      rw [decide_eq_true hg2]
theorem ruse_ok (need : List Int) (l : List Pr) (b : Int) (k : Int) (hnl : need.length ≤ bigN) (hll : l.length ≤ bigN) : Pure Try.prog 19 [intsV need, rawV l, .int .i64 b, .int .i64 k] (.tuple [.agg [.int .i64 (useR need l b k).1, .int .i64 (useR need l b k).2.1], .int .i64 (useR need l b k).2.2]) := by
  refine Pure.start (N := 75) Try.func19 rfl rfl (Nat.le_of_ble_eq_true rfl) ?_
  refine AWp.seq ?_
  refine AWp.region ?_
  refine AList.c 8 rfl rfl rfl (OpJ.allocOwn rfl zr35 rfl) ?_
  refine AList.c 9 rfl rfl rfl (OpJ.assign rfl rfl) ?_
  refine AList.nil ?_
  refine AWp.seq ?_
  refine AWp.region ?_
  refine AList.c 16 rfl rfl rfl (OpJ.move rfl rfl) ?_
  refine AList.c 17 rfl rfl rfl (OpJ.move rfl rfl) ?_
  refine AList.c 18 rfl rfl rfl (OpJ.move rfl rfl) ?_
  refine AList.c 19 rfl rfl rfl (OpJ.callP (rcheck_ok need l b hnl hll) rfl rfl rfl rfl rf41) ?_
  refine AList.c 10 rfl rfl rfl (OpJ.assign rfl rfl) ?_
  refine AList.nil ?_
  refine AWp.seq ?_
  refine AWp.seq ?_
  refine AWp.region ?_
  refine AList.c 20 rfl rfl rfl (OpJ.move rfl rfl) ?_
  refine AList.c 21 rfl rfl rfl (OpJ.neq rfl rfl rfl) ?_
  refine AList.nil ?_
  refine AWp.cond _ rfl (fun hc0 => ?_) (fun hc0 => ?_)
  · skip
    have hc : checkR need l b ≠ 0 := by simpa using hc0
    refine AWp.seq ?_
    refine AWp.region ?_
    refine AList.c 22 rfl rfl rfl (OpJ.build rfl bd35 rfl rfl) ?_
    refine AList.c 23 rfl rfl rfl (OpJ.move rfl rfl) ?_
    refine AList.c0 rfl rfl (OpJ.store rfl rfl rfl rfl rfl ty35 rfl rfl) ?_
    refine AList.c 9 rfl rfl rfl (OpJ.assign rfl rfl) ?_
    refine AList.nil ?_
    refine AWp.ret ?_
    have e : useR need l b k = (0, 0, checkR need l b) := by unfold useR; rw [if_neg hc]
    rw [e]
    exact Fin.many (xs := [.agg [.int .i64 (0), .int .i64 (0)], .int .i64 (checkR need l b)]) rfl (⟨_, _, rfl, ⟨_, _, _, rfl, ty35, rfl⟩, ⟨_, _, rfl, rfl, rfl⟩⟩) rfl
  · skip
    have hc : checkR need l b = 0 := by simpa using hc0
    obtain ⟨hV, hb⟩ := checkR_zero hc
    have hn : okN need := hV.2.2.1
    have h8 := hV.1.2
    have h0 := hV.1.1
    have hL := toPl_ok hV
    rw [toPl_raw hV]
    have hp := pow8 h8
    have hp1 := pow_pos' need.length
    have hA : allS need.length = 2 ^ need.length - 1 := rfl
    have hl8 := hL.1
    have hvt := timesV_ok (b := b) hn h8 (by omega) (by omega)
    refine AWp.skip ?_
    refine AWp.seq ?_
    refine AWp.seq ?_
    refine AWp.region ?_
    refine AList.c 24 rfl rfl rfl (OpJ.move rfl rfl) ?_
    refine AList.c 25 rfl rfl rfl (OpJ.move rfl rfl) ?_
    refine AList.c 26 rfl rfl rfl (OpJ.lenSlice rfl rfl sl23 rfl) ?_
    refine AList.c 27 rfl rfl rfl (OpJ.sub_ rfl rfl rfl (i64ok ?_)) ?_
    · omega
    refine AList.c 28 rfl rfl rfl (OpJ.callP (in_ok _ _ _) rfl rfl rfl rfl rf51) ?_
    refine AList.c 29 rfl rfl rfl (OpJ.not_ rfl rfl) ?_
    refine AList.nil ?_
    refine AWp.cond _ rfl (fun hc1 => ?_) (fun hc1 => ?_)
    · skip
      have hkk : ¬ (0 ≤ k ∧ k ≤ ((toPl l).length : Int) - 1) := by simp at hc1; omega
      refine AWp.seq ?_
      refine AWp.region ?_
      refine AList.c 30 rfl rfl rfl (OpJ.build rfl bd35 rfl rfl) ?_
      refine AList.c0 rfl rfl (OpJ.store rfl rfl rfl rfl rfl ty35 rfl rfl) ?_
      refine AList.c 9 rfl rfl rfl (OpJ.assign rfl rfl) ?_
      refine AList.nil ?_
      refine AWp.ret ?_
      have e : useR need l b k = (0, 0, 2) := by unfold useR; rw [if_pos hc, if_neg hkk]
      rw [e]
      exact Fin.many (xs := [.agg [.int .i64 (0), .int .i64 (0)], .int .i64 (2)]) rfl (⟨_, _, rfl, ⟨_, _, _, rfl, ty35, rfl⟩, ⟨_, _, rfl, rfl, rfl⟩⟩) rfl
    · skip
      have hkk : 0 ≤ k ∧ k ≤ ((toPl l).length : Int) - 1 := by simp at hc1; omega
      obtain ⟨kk, rfl⟩ := Int.eq_ofNat_of_zero_le hkk.1
      have hk0 : kk < (toPl l).length := by omega
      have hpk := hL.2 (toPl l)[kk] (List.getElem_mem _)
      have hsv := sumS_B hvt (toPl l)[kk].s
      have hst := sumS_times need b (toPl l)[kk].s
      have hel : (toPl l)[kk]?.getD ⟨0, 0⟩ = (toPl l)[kk] := by simp [hk0]
      refine AWp.skip ?_
      refine AWp.seq ?_
      refine AWp.region ?_
      refine AList.c 32 rfl rfl rfl (OpJ.move rfl rfl) ?_
      refine AList.c 33 rfl rfl rfl (OpJ.move rfl rfl) ?_
      refine AList.c 34 rfl rfl rfl (OpJ.move rfl rfl) ?_
      refine AList.c 35 rfl rfl rfl (OpJ.callP (rlack_ok need (toPl l) b hn h8 hL (by omega) (by omega)) rfl rfl rfl rfl rf42) ?_
      refine AList.c 31 rfl rfl rfl (OpJ.move rfl rfl) ?_
      refine AList.c 36 rfl rfl rfl (OpJ.extract rfl rfl rfl) ?_
      refine AList.c 37 rfl rfl rfl (OpJ.extract rfl rfl rfl) ?_
      refine AList.c 11 rfl rfl rfl (OpJ.assign rfl rfl) ?_
      refine AList.c 12 rfl rfl rfl (OpJ.assign rfl rfl) ?_
      refine AList.nil ?_
      refine AWp.seq ?_
      refine AWp.seq ?_
      refine AWp.region ?_
      refine AList.c 38 rfl rfl rfl (OpJ.move rfl rfl) ?_
      refine AList.c 39 rfl rfl rfl (OpJ.gtr rfl rfl rfl) ?_
      refine AList.nil ?_
      refine AWp.cond _ rfl (fun hc2 => ?_) (fun hc2 => ?_)
      · skip
        have hz : ¬ (lkF (timesV need b) (toPl l) (allS need.length)).2 = 0 := by have h := of_decide_eq_true hc2; omega
        refine AWp.seq ?_
        refine AWp.region ?_
        refine AList.c 40 rfl rfl rfl (OpJ.build rfl bd35 rfl rfl) ?_
        refine AList.c0 rfl rfl (OpJ.store rfl rfl rfl rfl rfl ty35 rfl rfl) ?_
        refine AList.c 9 rfl rfl rfl (OpJ.assign rfl rfl) ?_
        refine AList.nil ?_
        refine AWp.ret ?_
        have e : useR need l b (kk : Int) = (0, 0, 10) := by unfold useR; rw [if_pos hc, if_pos hkk, if_neg hz]
        rw [e]
        exact Fin.many (xs := [.agg [.int .i64 (0), .int .i64 (0)], .int .i64 (10)]) rfl (⟨_, _, rfl, ⟨_, _, _, rfl, ty35, rfl⟩, ⟨_, _, rfl, rfl, rfl⟩⟩) rfl
      · skip
        have hz : (lkF (timesV need b) (toPl l) (allS need.length)).2 = 0 := by have h := of_decide_eq_false hc2; have h5 := lkF_nonneg (timesV need b) (toPl l) (allS need.length); omega
        refine AWp.skip ?_
        refine AWp.seq ?_
        refine AWp.regionDrawG 9 2 [1, 2] [([1], true), ([], false), ([], false), ([], false), ([2, 1], true), ([], false), ([], false), ([], false), ([], false)] mixed (by kernel_rfl) (by decide) (by kernel_rfl) rfl rfl ?_
        refine AQG.lay (v0 := .row 3 _) 41 1 rfl rfl rfl rfl rfl rfl rfl rfl (fun _ => (OpJ.buildOwn rfl slz23 (by decide) rfl rfl)) rfl rfl rfl ?_
        refine AQG.cons 42 rfl rfl rfl (fun _ => (OpJ.move rfl rfl)) rfl ?_
        refine AQG.cons 43 rfl rfl rfl (fun _ => (OpJ.move rfl rfl)) rfl ?_
        refine AQG.cons 44 rfl rfl rfl (fun _ => (OpJ.sliceIs (l := 0) (h := kk) (r := (((toPl l).take kk).flatMap Pl.cells)) rfl rfl sl23 el23 rfl ⟨_, rfl⟩ (by omega) (by omega) (plTake _ (by omega)))) rfl ?_
        refine AQG.turn (v0 := .row 3 _) 45 2 1 rfl rfl rfl rfl rfl rfl rfl rfl rfl rfl (fun _ => (OpJ.appendRow (i := 1) (len := 0) (cs := []) rfl rfl rfl slz23 sl23 rfl ?_ (asrc_is (xs := ((toPl l).take kk).flatMap Pl.cells) (n := kk - 0) (sz := 2) (plTake_len (toPl l) (k := kk) (by omega))) (onePl _) by46 (by decide) ?_)) rfl rfl (congrArg (fun z => Blk.row z 46) (renL_pure _ (((toPl l).take kk).flatMap Pl.cells))) ?_
        · rfl
        · show (2 * (0 + (kk - 0)) + 192) * 16 ≤ 281474976710656; omega
        refine AQG.cons 46 rfl rfl rfl (fun _ => (OpJ.move rfl rfl)) rfl ?_
        refine AQG.cons 47 rfl rfl rfl (fun _ => (OpJ.move rfl rfl)) rfl ?_
        refine AQG.cons 48 rfl rfl rfl (fun _ => (OpJ.add (m := ((kk + 1 : Nat) : Int)) rfl rfl rfl ((i64ok ?_).trans ?_))) rfl ?_
        · omega
        · omega
        refine AQG.cons 49 rfl rfl rfl (fun _ => (OpJ.sliceIs (l := (kk + 1)) (h := (toPl l).length) (r := (((toPl l).drop (kk + 1)).flatMap Pl.cells)) rfl rfl sl23 el23 ⟨_, rfl⟩ rfl (by omega) (by omega) (plDrop _ _))) rfl ?_
        refine AQG.nil ?_
        refine AList.c 50 rfl rfl rfl (OpJ.appendRow rfl rfl rfl slz23 sl23 rfl ?_ (asrc_is (plDrop_len _ _)) (onePl _) by46 (by decide) ?_) ?_
        · rw [List.length_append, List.length_map, plTake_len (toPl l) (k := kk) (by omega)]; show 0 + (kk - 0) * 2 = (0 + (kk - 0)) * 2; omega
        · show (2 * (0 + (kk - 0) + ((toPl l).length - (kk + 1))) + 192) * 16 ≤ 281474976710656; omega
        refine AList.c 13 rfl rfl rfl (OpJ.assign rfl rfl) ?_
        refine AList.nil ?_
        refine AWp.seq ?_
        refine AWp.norm [0, 3] [(13, .row 1 (erP (toPl l) kk).length), (0, _), (1, _), (2, _), (3, _), (8, _)] [.cells [.p (.int .i64 0), .p (.int .i64 0)] 35, .row (((erP (toPl l) kk).flatMap Pl.cells).map .p) 46] rfl (Sub.cons (congrArg (fun n => some (V.row 1 n)) (erP_len hk0)) (by repeat (first | exact Sub.nil | refine Sub.cons rfl ?_))) ?_ ?_
        · show [_, Blk.row (renL _ (([] ++ _) ++ _)) _] = _
          rw [renL_app, renL_app, renL_pure, renL_pure]
          unfold erP
          rw [List.flatMap_append, List.map_append]
          rfl
        refine AWp.freeze 1 rfl (allP_map _) ?_
        refine AWp.region ?_
        refine AList.c 52 rfl rfl rfl (OpJ.move rfl rfl) ?_
        refine AList.c 53 rfl rfl rfl (OpJ.move rfl rfl) ?_
        refine AList.c 54 rfl rfl rfl (OpJ.move rfl rfl) ?_
        refine AList.c 55 rfl rfl rfl (OpJ.callP (rlack_ok need (erP (toPl l) kk) b hn h8 (okP_er hL hk0) (by omega) (by omega)) rfl rfl rfl rfl rf42) ?_
        refine AList.c 51 rfl rfl rfl (OpJ.move rfl rfl) ?_
        refine AList.c 56 rfl rfl rfl (OpJ.extract rfl rfl rfl) ?_
        refine AList.c 57 rfl rfl rfl (OpJ.extract rfl rfl rfl) ?_
        refine AList.c 14 rfl rfl rfl (OpJ.assign rfl rfl) ?_
        refine AList.c 15 rfl rfl rfl (OpJ.assign rfl rfl) ?_
        refine AList.nil ?_
        refine AWp.seq ?_
        refine AWp.regionDraw 17 mixed (by kernel_rfl) (by decide) ?_
        refine AQuiet.cons 58 rfl rfl rfl (OpJ.move rfl rfl) ?_
        refine AQuiet.cons 59 rfl rfl rfl (OpJ.move rfl rfl) ?_
        refine AQuiet.cons 60 rfl rfl rfl (OpJ.move rfl rfl) ?_
        refine AQuiet.cons 61 rfl rfl rfl (OpJ.indexEl rfl rfl rfl sl23 el23 rfl (fun _ => rfl) (by decide) hk0) ?_
        refine AQuiet.cons 62 rfl rfl rfl (OpJ.fieldAddr rfl rfl fd46_1 rfl) ?_
        refine AQuiet.cons 63 rfl rfl rfl (OpJ.load rfl rfl ty3 rfl) ?_
        refine AQuiet.cons 64 rfl rfl rfl (OpJ.move rfl rfl) ?_
        refine AQuiet.cons 65 rfl rfl rfl (OpJ.move rfl rfl) ?_
        refine AQuiet.cons 66 rfl rfl rfl (OpJ.move rfl rfl) ?_
        refine AQuiet.cons 67 rfl rfl rfl (OpJ.move rfl rfl) ?_
        refine AQuiet.cons 68 rfl rfl rfl (OpJ.indexEl rfl rfl rfl sl23 el23 rfl (fun _ => rfl) (by decide) hk0) ?_
        refine AQuiet.cons 69 rfl rfl rfl (OpJ.fieldAddr rfl rfl fd46_0 rfl) ?_
        refine AQuiet.cons 70 rfl rfl rfl (OpJ.load rfl rfl ty3 rfl) ?_
        refine AQuiet.cons 71 rfl rfl rfl (OpJ.callP (needs_ok need (toPl l)[kk].s (okN_okV hn h8) (by omega)) rfl rfl rfl rfl rf23) ?_
        refine AQuiet.cons 72 rfl rfl rfl (OpJ.mul (m := sumS (timesV need b) (toPl l)[kk].s) rfl rfl rfl ((i64ok ?_).trans ?_)) ?_
        · rw [← hst]; omega
        · exact hst.symm
        refine AQuiet.cons 73 rfl rfl rfl (OpJ.min2 rfl rfl rfl) ?_
        refine AQuiet.cons 74 rfl rfl rfl (OpJ.build rfl bd35 rfl rfl) ?_
        refine AQuiet.nil ?_
        refine AList.c0 rfl rfl (OpJ.store rfl rfl rfl rfl rfl ty35 rfl rfl) ?_
        refine AList.c 9 rfl rfl rfl (OpJ.assign rfl rfl) ?_
        refine AList.nil ?_
        refine AWp.ret ?_
        have e : useR need l b (kk : Int) = ((lkF (timesV need b) (erP (toPl l) kk) (allS need.length)).2, min (toPl l)[kk].m (sumS (timesV need b) (toPl l)[kk].s), 0) := by unfold useR; rw [if_pos hc, if_pos hkk, if_pos hz, Int.toNat_natCast, hel]; rfl
        rw [e]
        exact Fin.many (xs := [.agg [.int .i64 ((lkF (timesV need b) (erP (toPl l) kk) (allS need.length)).2), .int .i64 (min (toPl l)[kk].m (sumS (timesV need b) (toPl l)[kk].s))], .int .i64 (0)]) rfl (⟨_, _, rfl, ⟨_, _, _, rfl, ty35, rfl⟩, ⟨_, _, rfl, rfl, rfl⟩⟩) rfl
end Go.Proofs.Ytpamkihpffoflaa
