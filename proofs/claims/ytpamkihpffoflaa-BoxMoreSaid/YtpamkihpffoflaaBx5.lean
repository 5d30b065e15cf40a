/-
  How many boxes, in the other text.
-/
import Derived.Test.YtpamkihpffoflaaBx4
set_option linter.unusedVariables false
set_option maxRecDepth 100000
set_option maxHeartbeats 4000000
set_option linter.unusedSimpArgs false
namespace Go.Proofs.Ytpamkihpffoflaa
open Go.AF
theorem rcheck_ok (need : List Int) (l : List Pr) (b : Int) (hnl : need.length ≤ bigN) (hll : l.length ≤ bigN) : Pure Try.prog 41 [intsV need, rawV l, .int .i64 b] (.int .i64 (checkR need l b)) := by
  refine Pure.start (N := 14) Try.func41 rfl rfl (Nat.le_of_ble_eq_true rfl) ?_
  refine AWp.seq ?_
  refine AWp.region ?_
  refine AList.c 6 rfl rfl rfl (OpJ.assign rfl rfl) ?_
  refine AList.nil ?_
  refine AWp.seq ?_
  refine AWp.seq ?_
  refine AWp.region ?_
  refine AList.c 7 rfl rfl rfl (OpJ.move rfl rfl) ?_
  refine AList.c 8 rfl rfl rfl (OpJ.move rfl rfl) ?_
  refine AList.c 9 rfl rfl rfl (OpJ.callP (rvalid_ok need l hnl hll) rfl rfl rfl rfl rf21) ?_
  refine AList.c 10 rfl rfl rfl (OpJ.not_ rfl rfl) ?_
  refine AList.nil ?_
  refine AWp.cond _ rfl (fun hc0 => ?_) (fun hc0 => ?_)
  · skip
    refine AWp.seq ?_
    refine AWp.region ?_
    refine AList.c 6 rfl rfl rfl (OpJ.assign rfl rfl) ?_
    refine AList.nil ?_
    refine AWp.ret ?_
    refine Fin.oneE rfl rfl ?_
    have hV : ¬ Vld need l := by simpa using hc0
    unfold checkR; rw [if_neg hV]
  · skip
    refine AWp.skip ?_
    refine AWp.seq ?_
    refine AWp.seq ?_
    refine AWp.region ?_
    refine AList.c 11 rfl rfl rfl (OpJ.move rfl rfl) ?_
    refine AList.c 12 rfl rfl rfl (OpJ.callP (in_ok _ _ _) rfl rfl rfl rfl rf51) ?_
    refine AList.c 13 rfl rfl rfl (OpJ.not_ rfl rfl) ?_
    refine AList.nil ?_
    refine AWp.cond _ rfl (fun hc1 => ?_) (fun hc1 => ?_)
    · skip
      refine AWp.seq ?_
      refine AWp.region ?_
      refine AList.c 6 rfl rfl rfl (OpJ.assign rfl rfl) ?_
      refine AList.nil ?_
      refine AWp.ret ?_
      refine Fin.oneE rfl rfl ?_
      have hV : Vld need l := by simpa using hc0
      have hb : ¬ (0 ≤ b ∧ b ≤ 1048576) := by simp at hc1; omega
      unfold checkR; rw [if_pos hV, if_neg hb]
    · skip
      refine AWp.skip ?_
      refine AWp.seq ?_
      refine AWp.region ?_
      refine AList.c 6 rfl rfl rfl (OpJ.assign rfl rfl) ?_
      refine AList.nil ?_
      refine AWp.ret ?_
      refine Fin.oneE rfl rfl ?_
      have hV : Vld need l := by simpa using hc0
      have hb : 0 ≤ b ∧ b ≤ 1048576 := by simp at hc1; omega
      unfold checkR; rw [if_pos hV, if_pos hb]
theorem rmost_ok (need : List Int) (l : List Pr) (hnl : need.length ≤ bigN) (hll : l.length ≤ bigN) : Pure Try.prog 13 [intsV need, rawV l] (.tuple [.int .i64 (mostR need l).1, .int .i64 (mostR need l).2.1, .int .i64 (mostR need l).2.2]) := by
  refine Pure.start (N := 64) Try.func13 rfl rfl (Nat.le_of_ble_eq_true rfl) ?_
  refine AWp.seq ?_
  refine AWp.region ?_
  refine AList.c 4 rfl rfl rfl (OpJ.assign rfl rfl) ?_
  refine AList.c 5 rfl rfl rfl (OpJ.assign rfl rfl) ?_
  refine AList.c 6 rfl rfl rfl (OpJ.assign rfl rfl) ?_
  refine AList.nil ?_
  refine AWp.seq ?_
  refine AWp.seq ?_
  refine AWp.region ?_
  refine AList.c 11 rfl rfl rfl (OpJ.move rfl rfl) ?_
  refine AList.c 12 rfl rfl rfl (OpJ.move rfl rfl) ?_
  refine AList.c 13 rfl rfl rfl (OpJ.callP (rvalid_ok need l hnl hll) rfl rfl rfl rfl rf21) ?_
  refine AList.c 14 rfl rfl rfl (OpJ.not_ rfl rfl) ?_
  refine AList.nil ?_
  refine AWp.cond _ rfl (fun hc0 => ?_) (fun hc0 => ?_)
  · skip
    refine AWp.seq ?_
    refine AWp.region ?_
    refine AList.c 4 rfl rfl rfl (OpJ.assign rfl rfl) ?_
    refine AList.c 5 rfl rfl rfl (OpJ.assign rfl rfl) ?_
    refine AList.c 6 rfl rfl rfl (OpJ.assign rfl rfl) ?_
    refine AList.nil ?_
    refine AWp.ret ?_
    have hV : ¬ Vld need l := by simpa using hc0
    have e : mostR need l = (0, 0, 1) := by unfold mostR; rw [if_neg hV]
    rw [e]
    exact Fin.many (xs := [.int .i64 0, .int .i64 0, .int .i64 1]) rfl (⟨_, _, rfl, rfl, ⟨_, _, rfl, rfl, ⟨_, _, rfl, rfl, rfl⟩⟩⟩) rfl
  · skip
    have hV : Vld need l := by simpa using hc0
    have hn : okN need := hV.2.2.1
    have h8 := hV.1.2
    have hL := toPl_ok hV
    have hv := okN_okV hn h8
    rw [toPl_raw hV]
    have hp := pow8 h8
    have hp1 := pow_pos' need.length
    have hA : allS need.length = 2 ^ need.length - 1 := rfl
    refine AWp.skip ?_
    refine AWp.seq ?_
    refine AWp.region ?_
    refine AList.c 7 rfl rfl rfl (OpJ.assign rfl rfl) ?_
    refine AList.nil ?_
    refine AWp.seq ?_
    refine AWp.seq ?_
    refine AWp.region ?_
    refine AList.c 8 rfl rfl rfl (OpJ.assign rfl rfl) ?_
    refine AList.nil ?_
    refine AWp.block ?_
    refine AWp.loopK [7, 8, 9, 15, 16, 17, 18, 19, 20, 21, 22, 23, 24, 25, 26, 27, 28, 29, 30, 31, 32, 33, 34, 35, 36, 37, 38, 39, 40, 41, 42, 43, 44] (fun g => [(8, .p (.int .i64 ((g + 1 : Nat) : Int))), (7, .p (.int .i64 (quF need (toPl l) g)))]) (fun g => g ≤ allS need.length) (fun g => allS need.length - g) 0 (Nat.zero_le _) (Sub.cons rfl (Sub.cons rfl (Sub.nil))) (fun i hg => ?_)
    have hqb := quF_B hn h8 hL i
    refine AWp.seq ?_
    refine AWp.seq ?_
    refine AWp.region ?_
    refine AList.c 15 rfl rfl rfl (OpJ.move rfl rfl) ?_
    refine AList.c 16 rfl rfl rfl (OpJ.move rfl rfl) ?_
    refine AList.c 17 rfl rfl rfl (OpJ.lenSlice rfl rfl sl22 rfl) ?_
    refine AList.c 18 rfl rfl rfl (OpJ.callP (power_ok need.length (by omega)) rfl rfl rfl rfl rf38) ?_
    refine AList.c 19 rfl rfl rfl (OpJ.lss rfl rfl rfl) ?_
    refine AList.nil ?_
    refine AWp.cond _ rfl (fun hc1 => ?_) (fun hc1 => ?_)
    · skip
      have hk0 : i + 1 < 2 ^ need.length := by have h := of_decide_eq_true hc1; omega
      have hs := sumS_N hn h8 (i + 1)
      have ho := ofP_BB hL (i + 1)
      have hq := div_B ho.1 hs.1
      refine AWp.skip ?_
      refine AWp.seq ?_
      refine AWp.block ?_
      refine AWp.seq ?_
      refine AWp.region ?_
      refine AList.c 22 rfl rfl rfl (OpJ.move rfl rfl) ?_
      refine AList.c 23 rfl rfl rfl (OpJ.move rfl rfl) ?_
      refine AList.c 24 rfl rfl rfl (OpJ.callP (needs_ok need (i + 1) hv (by omega)) rfl rfl rfl rfl rf23) ?_
      refine AList.c 9 rfl rfl rfl (OpJ.assign rfl rfl) ?_
      refine AList.nil ?_
      refine AWp.seq ?_
      refine AWp.region ?_
      refine AList.c 25 rfl rfl rfl (OpJ.move rfl rfl) ?_
      refine AList.c 26 rfl rfl rfl (OpJ.gtr rfl rfl rfl) ?_
      refine AList.c 27 rfl rfl rfl (OpJ.move rfl rfl) ?_
      refine AList.g 28 27 rfl rfl rfl rfl rfl rfl rfl [(7, _)] (fun h => And.intro (.inl rfl) (trivial)) (fun h => (OpJ.move rfl rfl)) ?_
      refine AList.g 29 27 rfl rfl rfl rfl rfl rfl rfl [(28, _)] (fun h => And.intro (.inr ⟨_, rfl, h⟩) (trivial)) (fun h => (OpJ.lss rfl rfl rfl)) ?_
      refine AList.g 30 27 rfl rfl rfl rfl rfl rfl rfl [(29, _)] (fun h => And.intro (.inr ⟨_, rfl, h⟩) (trivial)) (fun h => (OpJ.move rfl rfl)) ?_
      refine AList.g 31 30 rfl rfl rfl rfl rfl rfl rfl [(1, _)] (fun h => And.intro (.inl rfl) (trivial)) (fun h => (OpJ.move rfl rfl)) ?_
      refine AList.g 32 30 rfl rfl rfl rfl rfl rfl rfl [(8, _)] (fun h => And.intro (.inl rfl) (trivial)) (fun h => (OpJ.move rfl rfl)) ?_
      refine AList.g 33 30 rfl rfl rfl rfl rfl rfl rfl [(31, _), (32, _)] (fun h => And.intro (.inr ⟨_, rfl, h⟩) (And.intro (.inr ⟨_, rfl, h⟩) (trivial))) (fun h => (OpJ.callP (of_ok need.length (toPl l) (i + 1) h8 hL (by omega)) rfl rfl rfl rfl rf22)) ?_
      refine AList.g 34 30 rfl rfl rfl rfl rfl rfl rfl [(9, _)] (fun h => And.intro (.inl rfl) (trivial)) (fun h => (OpJ.move rfl rfl)) ?_
      refine AList.g 35 30 rfl rfl rfl rfl rfl rfl rfl [(33, _), (34, _)] (fun h => And.intro (.inr ⟨_, rfl, h⟩) (And.intro (.inr ⟨_, rfl, h⟩) (trivial))) (fun h => (OpJ.quo (m := ofP (toPl l) (i + 1) / sumS need (i + 1)) rfl rfl rfl (by simp at h; omega) ((i64ok (by rw [hq.1]; omega)).trans hq.1))) ?_
      refine AList.g 36 30 rfl rfl rfl rfl rfl rfl rfl [(7, _)] (fun h => And.intro (.inl rfl) (trivial)) (fun h => (OpJ.move rfl rfl)) ?_
      refine AList.g 37 30 rfl rfl rfl rfl rfl rfl rfl [(35, _), (36, _)] (fun h => And.intro (.inr ⟨_, rfl, h⟩) (And.intro (.inr ⟨_, rfl, h⟩) (trivial))) (fun h => (OpJ.lss rfl rfl rfl)) ?_
      refine AList.g 38 27 rfl rfl rfl rfl rfl rfl rfl [(30, _), (37, _)] (fun h => And.intro (.inr ⟨_, rfl, h⟩) (And.intro (.inl rfl) (trivial))) (fun h => (OpJ.or_ rfl rfl rfl (fun e => by simp_all))) ?_
      refine AList.c 39 rfl rfl rfl (OpJ.and_ rfl rfl rfl ?_) ?_
      · first | (intro h; rw [h]; rfl) | (intro h; simp_all)
      refine AList.nil ?_
      refine AWp.cond _ rfl (fun hc2 => ?_) (fun hc2 => ?_)
      · skip
        refine AWp.region ?_
        refine AList.c 40 rfl rfl rfl (OpJ.move rfl rfl) ?_
        refine AList.c 41 rfl rfl rfl (OpJ.move rfl rfl) ?_
        refine AList.c 42 rfl rfl rfl (OpJ.callP (of_ok need.length (toPl l) (i + 1) h8 hL (by omega)) rfl rfl rfl rfl rf22) ?_
        refine AList.c 43 rfl rfl rfl (OpJ.move rfl rfl) ?_
        refine AList.c 44 rfl rfl rfl (OpJ.quo (m := ofP (toPl l) (i + 1) / sumS need (i + 1)) rfl rfl rfl (by simp at hc2; omega) ((i64ok (by rw [hq.1]; omega)).trans hq.1)) ?_
        refine AList.c 7 rfl rfl rfl (OpJ.assign rfl rfl) ?_
        refine AList.nil ?_
        refine AWp.region ?_
        refine AList.c 20 rfl rfl rfl (OpJ.move rfl rfl) ?_
        refine AList.c 21 rfl rfl rfl (OpJ.add rfl rfl rfl (i64ok ?_)) ?_
        · omega
        refine AList.c 8 rfl rfl rfl (OpJ.assign rfl rfl) ?_
        refine AList.nil ?_
        refine ⟨i + 1, ?_, ?_, ?_⟩
        · omega
        · omega
        refine To.done [] rfl ?_ rfl
        refine Sub.cons rfl (Sub.cons ?_ (by repeat (first | exact Sub.nil | refine Sub.cons rfl ?_)))
        have h9 : 0 < sumS need (i + 1) ∧ (quF need (toPl l) i < 0 ∨ ofP (toPl l) (i + 1) / sumS need (i + 1) < quF need (toPl l) i) := by simpa using hc2
        simp only [quF]; rw [if_pos h9]; rfl
      · skip
        refine AWp.skip ?_
        refine AWp.region ?_
        refine AList.c 20 rfl rfl rfl (OpJ.move rfl rfl) ?_
        refine AList.c 21 rfl rfl rfl (OpJ.add rfl rfl rfl (i64ok ?_)) ?_
        · omega
        refine AList.c 8 rfl rfl rfl (OpJ.assign rfl rfl) ?_
        refine AList.nil ?_
        refine ⟨i + 1, ?_, ?_, ?_⟩
        · omega
        · omega
        refine To.done [] rfl ?_ rfl
        refine Sub.cons rfl (Sub.cons ?_ (by repeat (first | exact Sub.nil | refine Sub.cons rfl ?_)))
        have h9 : ¬ (0 < sumS need (i + 1) ∧ (quF need (toPl l) i < 0 ∨ ofP (toPl l) (i + 1) / sumS need (i + 1) < quF need (toPl l) i)) := by
          intro h
          simp at hc2
          have := hc2 h.1
          omega
        simp only [quF]; rw [if_neg h9]; rfl
    · skip
      obtain rfl : i = allS need.length := by have h := of_decide_eq_false hc1; omega
      refine AWp.exit ?_
      refine AWp.seq ?_
      refine AWp.seq ?_
      refine AWp.region ?_
      refine AList.c 10 rfl rfl rfl (OpJ.assign rfl rfl) ?_
      refine AList.nil ?_
      refine AWp.block ?_
      refine AWp.loopK [4, 5, 6, 10, 45, 46, 47, 48, 49, 50, 51, 52, 53, 54, 55, 56, 57, 58, 59, 60, 61, 62, 63] (fun g => [(10, .p (.int .i64 ((g + 1 : Nat) : Int)))]) (fun g => g ≤ allS need.length ∧ pfF need (toPl l) (quF need (toPl l) (allS need.length) + 1) g = 0) (fun g => allS need.length - g) 0 ⟨Nat.zero_le _, rfl⟩ (Sub.cons rfl (Sub.nil)) (fun j hh => ?_)
      obtain ⟨hh1, hh2⟩ := hh
      refine AWp.seq ?_
      refine AWp.seq ?_
      refine AWp.region ?_
      refine AList.c 45 rfl rfl rfl (OpJ.move rfl rfl) ?_
      refine AList.c 46 rfl rfl rfl (OpJ.move rfl rfl) ?_
      refine AList.c 47 rfl rfl rfl (OpJ.lenSlice rfl rfl sl22 rfl) ?_
      refine AList.c 48 rfl rfl rfl (OpJ.callP (power_ok need.length (by omega)) rfl rfl rfl rfl rf38) ?_
      refine AList.c 49 rfl rfl rfl (OpJ.lss rfl rfl rfl) ?_
      refine AList.nil ?_
      refine AWp.cond _ rfl (fun hc3 => ?_) (fun hc3 => ?_)
      · skip
        have hk1 : j + 1 < 2 ^ need.length := by have h := of_decide_eq_true hc3; omega
        have hs := sumS_N hn h8 (j + 1)
        have ho := ofP_BB hL (j + 1)
        have hm := mul_BB (a := quF need (toPl l) (allS need.length) + 1) (A := 8388609) (by omega) (by omega) hs.1 hs.2
        refine AWp.skip ?_
        refine AWp.seq ?_
        refine AWp.block ?_
        refine AWp.seq ?_
        refine AWp.region ?_
        refine AList.c 52 rfl rfl rfl (OpJ.move rfl rfl) ?_
        refine AList.c 53 rfl rfl rfl (OpJ.move rfl rfl) ?_
        refine AList.c 54 rfl rfl rfl (OpJ.callP (of_ok need.length (toPl l) (j + 1) h8 hL (by omega)) rfl rfl rfl rfl rf22) ?_
        refine AList.c 55 rfl rfl rfl (OpJ.move rfl rfl) ?_
        refine AList.c 56 rfl rfl rfl (OpJ.add rfl rfl rfl (i64ok ?_)) ?_
        · omega
        refine AList.c 57 rfl rfl rfl (OpJ.move rfl rfl) ?_
        refine AList.c 58 rfl rfl rfl (OpJ.move rfl rfl) ?_
        refine AList.c 59 rfl rfl rfl (OpJ.callP (needs_ok need (j + 1) hv (by omega)) rfl rfl rfl rfl rf23) ?_
        refine AList.c 60 rfl rfl rfl (OpJ.mul rfl rfl rfl (i64ok ?_)) ?_
        · omega
        refine AList.c 61 rfl rfl rfl (OpJ.lss rfl rfl rfl) ?_
        refine AList.nil ?_
        refine AWp.cond _ rfl (fun hc4 => ?_) (fun hc4 => ?_)
        · skip
          have h4 : ofP (toPl l) (j + 1) < (quF need (toPl l) (allS need.length) + 1) * sumS need (j + 1) := of_decide_eq_true hc4
          have h5 : pfF need (toPl l) (quF need (toPl l) (allS need.length) + 1) (j + 1) = j + 1 := by rw [pfF, if_pos hh2, if_pos h4]
          have h6 : pfF need (toPl l) (quF need (toPl l) (allS need.length) + 1) (allS need.length) = j + 1 := (pfF_le (show j + 1 ≤ allS need.length by omega) (by rw [h5]; omega)).trans h5
          refine AWp.seq ?_
          refine AWp.region ?_
          refine AList.c 62 rfl rfl rfl (OpJ.move rfl rfl) ?_
          refine AList.c 63 rfl rfl rfl (OpJ.move rfl rfl) ?_
          refine AList.c 4 rfl rfl rfl (OpJ.assign rfl rfl) ?_
          refine AList.c 5 rfl rfl rfl (OpJ.assign rfl rfl) ?_
          refine AList.c 6 rfl rfl rfl (OpJ.assign rfl rfl) ?_
          refine AList.nil ?_
          refine AWp.ret ?_
          have e : mostR need l = (quF need (toPl l) (allS need.length), ((j + 1 : Nat) : Int), 0) := by unfold mostR; rw [if_pos hV, if_neg (by rw [h6]; omega), h6]
          rw [e]
          exact Fin.many (xs := [.int .i64 (quF need (toPl l) (allS need.length)), .int .i64 ((j + 1 : Nat) : Int), .int .i64 0]) rfl (⟨_, _, rfl, rfl, ⟨_, _, rfl, rfl, ⟨_, _, rfl, rfl, rfl⟩⟩⟩) rfl
        · skip
          have h4 : ¬ ofP (toPl l) (j + 1) < (quF need (toPl l) (allS need.length) + 1) * sumS need (j + 1) := of_decide_eq_false hc4
          refine AWp.skip ?_
          refine AWp.region ?_
          refine AList.c 50 rfl rfl rfl (OpJ.move rfl rfl) ?_
          refine AList.c 51 rfl rfl rfl (OpJ.add rfl rfl rfl (i64ok ?_)) ?_
          · omega
          refine AList.c 10 rfl rfl rfl (OpJ.assign rfl rfl) ?_
          refine AList.nil ?_
          refine ⟨j + 1, ?_, ?_, ?_⟩
          · exact ⟨by omega, by rw [pfF, if_pos hh2, if_neg h4]⟩
          · omega
          exact To.done [] rfl (by repeat (first | exact Sub.nil | refine Sub.cons rfl ?_)) rfl
      · skip
        obtain rfl : j = allS need.length := by have h := of_decide_eq_false hc3; omega
        refine AWp.exit ?_
        refine AWp.seq ?_
        refine AWp.region ?_
        refine AList.c 4 rfl rfl rfl (OpJ.assign rfl rfl) ?_
        refine AList.c 5 rfl rfl rfl (OpJ.assign rfl rfl) ?_
        refine AList.c 6 rfl rfl rfl (OpJ.assign rfl rfl) ?_
        refine AList.nil ?_
        refine AWp.ret ?_
        have e : mostR need l = (0, 0, 4) := by unfold mostR; rw [if_pos hV, if_pos hh2]
        rw [e]
        exact Fin.many (xs := [.int .i64 0, .int .i64 0, .int .i64 4]) rfl (⟨_, _, rfl, rfl, ⟨_, _, rfl, rfl, ⟨_, _, rfl, rfl, rfl⟩⟩⟩) rfl
end Go.Proofs.Ytpamkihpffoflaa
