/-
  What lacks most.
-/
import Derived.Test.YtpamkihpffoflaaBx10
set_option linter.unusedVariables false
set_option maxRecDepth 100000
set_option maxHeartbeats 4000000
set_option linter.unusedSimpArgs false
namespace Go.Proofs.Ytpamkihpffoflaa
open Go.AF
theorem collect_ok (n : Nat) (h1 : 1 ≤ n) (hn : n ≤ 8) : Pure Try.prog 62 [.func (.func 59) [] [.ip [.int .i64 (n : Int)] 0]] (setsV n) := by
  refine Pure.start (N := 5) Try.func62 rfl rfl (Nat.le_of_ble_eq_true rfl) ?_
  refine AWp.seq ?_
  refine AWp.region ?_
  refine AList.c 2 rfl rfl rfl (OpJ.assign rfl rfl) ?_
  refine AList.nil ?_
  refine AWp.seq ?_
  refine AWp.region ?_
  refine AList.c 3 rfl rfl rfl (OpJ.move rfl rfl) ?_
  refine AList.c 4 rfl rfl rfl (OpJ.callP (appendSeq_ok n h1 hn) rfl rfl rfl rfl rf65) ?_
  refine AList.c 2 rfl rfl rfl (OpJ.assign rfl rfl) ?_
  refine AList.nil ?_
  refine AWp.ret ?_
  exact Fin.one rfl (rfl)
theorem block_ok (v : List Int) (l : List Pl) (h0 : 0 < v.length) (hv : okV v) (hl : okP v.length l) : Pure Try.prog 40 [intsV v, plV l] (.tuple [.int .i64 ((lkF v l (allS v.length)).1 : Int), .int .i64 (lkF v l (allS v.length)).2]) := by
  have h8 := hv.1
  refine Pure.start (N := 16) Try.func40 rfl rfl (Nat.le_of_ble_eq_true rfl) ?_
  refine AWp.seq ?_
  refine AWp.region ?_
  refine AList.c 4 rfl rfl rfl (OpJ.assign rfl rfl) ?_
  refine AList.c 5 rfl rfl rfl (OpJ.assign rfl rfl) ?_
  refine AList.nil ?_
  refine AWp.seq ?_
  refine AWp.region ?_
  refine AList.c 6 rfl rfl rfl (OpJ.move rfl rfl) ?_
  refine AList.c 7 rfl rfl rfl (OpJ.callP (newStock_ok v.length l h8 hl) rfl rfl rfl rfl rf34) ?_
  refine AList.c 8 rfl rfl rfl (OpJ.move rfl rfl) ?_
  refine AList.c 9 rfl rfl rfl (OpJ.move rfl rfl) ?_
  refine AList.c 10 rfl rfl rfl (OpJ.lenSlice rfl rfl sl22 rfl) ?_
  refine AList.c 11 rfl rfl rfl (OpJ.callP (sets_ok v.length) rfl rfl rfl rfl rf35) ?_
  refine AList.c 12 rfl rfl rfl (OpJ.callP (collect_ok v.length h0 h8) rfl rfl rfl rfl rf62) ?_
  refine AList.c 13 rfl rfl rfl (OpJ.callP (worst_ok v l hv hl) rfl rfl rfl rfl rf61) ?_
  refine AList.c 14 rfl rfl rfl (OpJ.extract rfl rfl rfl) ?_
  refine AList.c 15 rfl rfl rfl (OpJ.extract rfl rfl rfl) ?_
  refine AList.c 4 rfl rfl rfl (OpJ.assign rfl rfl) ?_
  refine AList.c 5 rfl rfl rfl (OpJ.assign rfl rfl) ?_
  refine AList.nil ?_
  refine AWp.ret ?_
  exact Fin.many (xs := [.int .i64 ((lkF v l (allS v.length)).1 : Int), .int .i64 (lkF v l (allS v.length)).2]) rfl (⟨_, _, rfl, rfl, ⟨_, _, rfl, rfl, rfl⟩⟩) rfl
theorem can_ok (v : List Int) (l : List Pl) (h0 : 0 < v.length) (hv : okV v) (hl : okP v.length l) : Pure Try.prog 32 [intsV v, plV l] (.bool (decide ((lkF v l (allS v.length)).2 = 0))) := by
  refine Pure.start (N := 15) Try.func32 rfl rfl (Nat.le_of_ble_eq_true rfl) ?_
  refine AWp.seq ?_
  refine AWp.region ?_
  refine AList.c 4 rfl rfl rfl (OpJ.assign rfl rfl) ?_
  refine AList.nil ?_
  refine AWp.seq ?_
  refine AWp.region ?_
  refine AList.c 8 rfl rfl rfl (OpJ.move rfl rfl) ?_
  refine AList.c 9 rfl rfl rfl (OpJ.move rfl rfl) ?_
  refine AList.c 10 rfl rfl rfl (OpJ.callP (block_ok v l h0 hv hl) rfl rfl rfl rfl rf40) ?_
  refine AList.c 7 rfl rfl rfl (OpJ.move rfl rfl) ?_
  refine AList.c 11 rfl rfl rfl (OpJ.extract rfl rfl rfl) ?_
  refine AList.c 12 rfl rfl rfl (OpJ.extract rfl rfl rfl) ?_
  refine AList.c 5 rfl rfl rfl (OpJ.assign rfl rfl) ?_
  refine AList.c 6 rfl rfl rfl (OpJ.assign rfl rfl) ?_
  refine AList.nil ?_
  refine AWp.seq ?_
  refine AWp.region ?_
  refine AList.c 13 rfl rfl rfl (OpJ.move rfl rfl) ?_
  refine AList.c 14 rfl rfl rfl (OpJ.eql rfl rfl rfl) ?_
  refine AList.c 4 rfl rfl rfl (OpJ.assign rfl rfl) ?_
  refine AList.nil ?_
  refine AWp.ret ?_
  exact Fin.one rfl (rfl)
theorem block_t (need : List Int) (l : List Pl) (b : Int) (h0 : 0 < need.length) (hn : okN need) (h8 : need.length ≤ 8) (hl : okP need.length l) (b0 : 0 ≤ b) (b1 : b ≤ 10000000000) : Pure Try.prog 40 [intsV (timesV need b), plV l] (.tuple [.int .i64 ((lkF (timesV need b) l (allS need.length)).1 : Int), .int .i64 (lkF (timesV need b) l (allS need.length)).2]) := by
  have h := block_ok (timesV need b) l (by rw [timesV_length]; exact h0) (timesV_ok hn h8 b0 b1) (by rw [timesV_length]; exact hl)
  rwa [timesV_length] at h
theorem can_t (need : List Int) (l : List Pl) (b : Int) (h0 : 0 < need.length) (hn : okN need) (h8 : need.length ≤ 8) (hl : okP need.length l) (b0 : 0 ≤ b) (b1 : b ≤ 10000000000) : Pure Try.prog 32 [intsV (timesV need b), plV l] (.bool (canB need l b)) := by
  have h := can_ok (timesV need b) l (by rw [timesV_length]; exact h0) (timesV_ok hn h8 b0 b1) (by rw [timesV_length]; exact hl)
  rwa [timesV_length] at h
theorem bcheck_ok (need : List Int) (l : List Pr) (b : Int) (hnl : need.length ≤ bigN) (hll : l.length ≤ bigN) : Pure Try.prog 39 [intsV need, rawV l, .int .i64 b] (.int .i64 (checkR need l b)) := by
  refine Pure.start (N := 16) Try.func39 rfl rfl (Nat.le_of_ble_eq_true rfl) ?_
  refine AWp.seq ?_
  refine AWp.region ?_
  refine AList.c 6 rfl rfl rfl (OpJ.assign rfl rfl) ?_
  refine AList.nil ?_
  refine AWp.seq ?_
  refine AWp.block ?_
  refine AWp.seq ?_
  refine AWp.region ?_
  refine AList.c 8 rfl rfl rfl (OpJ.move rfl rfl) ?_
  refine AList.c 9 rfl rfl rfl (OpJ.move rfl rfl) ?_
  refine AList.c 10 rfl rfl rfl (OpJ.callP (isValid_ok need l hnl hll) rfl rfl rfl rfl rf29) ?_
  refine AList.c 11 rfl rfl rfl (OpJ.not_ rfl rfl) ?_
  refine AList.c 7 rfl rfl rfl (OpJ.assign rfl rfl) ?_
  refine AList.nil ?_
  refine AWp.cond _ rfl (fun hc0 => ?_) (fun hc0 => ?_)
  · skip
    refine AWp.seq ?_
    refine AWp.region ?_
    refine AList.c 6 rfl rfl rfl (OpJ.assign rfl rfl) ?_
    refine AList.nil ?_
    refine AWp.ret ?_
    refine Fin.oneE rfl rfl ?_
    have hV : ¬ Vld need l := by simpa using hc0
    unfold checkR; rw [if_neg hV]
  · skip
    refine AWp.seq ?_
    refine AWp.region ?_
    refine AList.c 13 rfl rfl rfl (OpJ.move rfl rfl) ?_
    refine AList.c 14 rfl rfl rfl (OpJ.callP (within_ok _ _ _) rfl rfl rfl rfl rf49) ?_
    refine AList.c 15 rfl rfl rfl (OpJ.not_ rfl rfl) ?_
    refine AList.c 12 rfl rfl rfl (OpJ.assign rfl rfl) ?_
    refine AList.nil ?_
    refine AWp.cond _ rfl (fun hc1 => ?_) (fun hc1 => ?_)
    · skip
      refine AWp.seq ?_
      refine AWp.region ?_
      refine AList.c 6 rfl rfl rfl (OpJ.assign rfl rfl) ?_
      refine AList.nil ?_
      refine AWp.ret ?_
      refine Fin.oneE rfl rfl ?_
      have hV : Vld need l := by simpa using hc0
      have hb : ¬ (0 ≤ b ∧ b ≤ 1048576) := by simp at hc1; omega
      unfold checkR; rw [if_pos hV, if_neg hb]
    · skip
      refine AWp.skip ?_
      refine AWp.seq ?_
      refine AWp.region ?_
      refine AList.c 6 rfl rfl rfl (OpJ.assign rfl rfl) ?_
      refine AList.nil ?_
      refine AWp.ret ?_
      refine Fin.oneE rfl rfl ?_
      have hV : Vld need l := by simpa using hc0
      have hb : 0 ≤ b ∧ b ≤ 1048576 := by simp at hc1; omega
      unfold checkR; rw [if_pos hV, if_pos hb]
theorem bLack_ok (need : List Int) (l : List Pr) (b : Int) (hnl : need.length ≤ bigN) (hll : l.length ≤ bigN) : Pure Try.prog 14 [intsV need, rawV l, .int .i64 b] (.tuple [.int .i64 (lackR need l b).1, .int .i64 (lackR need l b).2.1, .int .i64 (lackR need l b).2.2]) := by
  refine Pure.start (N := 31) Try.func14 rfl rfl (Nat.le_of_ble_eq_true rfl) ?_
  refine AWp.seq ?_
  refine AWp.region ?_
  refine AList.c 6 rfl rfl rfl (OpJ.assign rfl rfl) ?_
  refine AList.c 7 rfl rfl rfl (OpJ.assign rfl rfl) ?_
  refine AList.c 8 rfl rfl rfl (OpJ.assign rfl rfl) ?_
  refine AList.nil ?_
  refine AWp.seq ?_
  refine AWp.seq ?_
  refine AWp.region ?_
  refine AList.c 12 rfl rfl rfl (OpJ.move rfl rfl) ?_
  refine AList.c 13 rfl rfl rfl (OpJ.move rfl rfl) ?_
  refine AList.c 14 rfl rfl rfl (OpJ.move rfl rfl) ?_
  refine AList.c 15 rfl rfl rfl (OpJ.callP (bcheck_ok need l b hnl hll) rfl rfl rfl rfl rf39) ?_
  refine AList.c 9 rfl rfl rfl (OpJ.assign rfl rfl) ?_
  refine AList.nil ?_
  refine AWp.seq ?_
  refine AWp.region ?_
  refine AList.c 16 rfl rfl rfl (OpJ.move rfl rfl) ?_
  refine AList.c 17 rfl rfl rfl (OpJ.neq rfl rfl rfl) ?_
  refine AList.nil ?_
  refine AWp.cond _ rfl (fun hc0 => ?_) (fun hc0 => ?_)
  · skip
    have hc : checkR need l b ≠ 0 := by simpa using hc0
    refine AWp.seq ?_
    refine AWp.region ?_
    refine AList.c 18 rfl rfl rfl (OpJ.move rfl rfl) ?_
    refine AList.c 6 rfl rfl rfl (OpJ.assign rfl rfl) ?_
    refine AList.c 7 rfl rfl rfl (OpJ.assign rfl rfl) ?_
    refine AList.c 8 rfl rfl rfl (OpJ.assign rfl rfl) ?_
    refine AList.nil ?_
    refine AWp.ret ?_
    have e : lackR need l b = (0, 0, checkR need l b) := by unfold lackR; rw [if_neg hc]
    rw [e]
    exact Fin.many (xs := [.int .i64 0, .int .i64 0, .int .i64 (checkR need l b)]) rfl (⟨_, _, rfl, rfl, ⟨_, _, rfl, rfl, ⟨_, _, rfl, rfl, rfl⟩⟩⟩) rfl
  · skip
    have hc : checkR need l b = 0 := by simpa using hc0
    obtain ⟨hV, hb⟩ := checkR_zero hc
    rw [toPl_raw hV]
    refine AWp.skip ?_
    refine AWp.seq ?_
    refine AWp.region ?_
    refine AList.c 20 rfl rfl rfl (OpJ.move rfl rfl) ?_
    refine AList.c 21 rfl rfl rfl (OpJ.move rfl rfl) ?_
    refine AList.c 22 rfl rfl rfl (OpJ.callP (btimes_ok need b hV.1.1 hV.2.2.1 hV.1.2 (by omega) (by omega)) rfl rfl rfl rfl rf33) ?_
    refine AList.c 23 rfl rfl rfl (OpJ.move rfl rfl) ?_
    refine AList.c 24 rfl rfl rfl (OpJ.callP (block_t need (toPl l) b hV.1.1 hV.2.2.1 hV.1.2 (toPl_ok hV) (by omega) (by omega)) rfl rfl rfl rfl rf40) ?_
    refine AList.c 19 rfl rfl rfl (OpJ.move rfl rfl) ?_
    refine AList.c 25 rfl rfl rfl (OpJ.extract rfl rfl rfl) ?_
    refine AList.c 26 rfl rfl rfl (OpJ.extract rfl rfl rfl) ?_
    refine AList.c 10 rfl rfl rfl (OpJ.assign rfl rfl) ?_
    refine AList.c 11 rfl rfl rfl (OpJ.assign rfl rfl) ?_
    refine AList.nil ?_
    refine AWp.seq ?_
    refine AWp.seq ?_
    refine AWp.region ?_
    refine AList.c 27 rfl rfl rfl (OpJ.move rfl rfl) ?_
    refine AList.c 28 rfl rfl rfl (OpJ.eql rfl rfl rfl) ?_
    refine AList.nil ?_
    refine AWp.cond _ rfl (fun hc1 => ?_) (fun hc1 => ?_)
    · skip
      have h2 : (lkF (timesV need b) (toPl l) (allS need.length)).2 = 0 := of_decide_eq_true hc1
      refine AWp.seq ?_
      refine AWp.region ?_
      refine AList.c 6 rfl rfl rfl (OpJ.assign rfl rfl) ?_
      refine AList.c 7 rfl rfl rfl (OpJ.assign rfl rfl) ?_
      refine AList.c 8 rfl rfl rfl (OpJ.assign rfl rfl) ?_
      refine AList.nil ?_
      refine AWp.ret ?_
      have e : lackR need l b = (0, 0, 4) := by unfold lackR; rw [if_pos hc, if_pos h2]
      rw [e]
      exact Fin.many (xs := [.int .i64 0, .int .i64 0, .int .i64 4]) rfl (⟨_, _, rfl, rfl, ⟨_, _, rfl, rfl, ⟨_, _, rfl, rfl, rfl⟩⟩⟩) rfl
    · skip
      have h2 : ¬ (lkF (timesV need b) (toPl l) (allS need.length)).2 = 0 := of_decide_eq_false hc1
      refine AWp.skip ?_
      refine AWp.seq ?_
      refine AWp.region ?_
      refine AList.c 29 rfl rfl rfl (OpJ.move rfl rfl) ?_
      refine AList.c 30 rfl rfl rfl (OpJ.move rfl rfl) ?_
      refine AList.c 6 rfl rfl rfl (OpJ.assign rfl rfl) ?_
      refine AList.c 7 rfl rfl rfl (OpJ.assign rfl rfl) ?_
      refine AList.c 8 rfl rfl rfl (OpJ.assign rfl rfl) ?_
      refine AList.nil ?_
      refine AWp.ret ?_
      have e : lackR need l b = (((lkF (timesV need b) (toPl l) (allS need.length)).1 : Int), (lkF (timesV need b) (toPl l) (allS need.length)).2, 0) := by unfold lackR; rw [if_pos hc, if_neg h2]
      rw [e]
      exact Fin.many (xs := [.int .i64 ((lkF (timesV need b) (toPl l) (allS need.length)).1 : Int), .int .i64 (lkF (timesV need b) (toPl l) (allS need.length)).2, .int .i64 0]) rfl (⟨_, _, rfl, rfl, ⟨_, _, rfl, rfl, ⟨_, _, rfl, rfl, rfl⟩⟩⟩) rfl
end Go.Proofs.Ytpamkihpffoflaa
