/-
  What so many boxes need; what lacks most.
-/
import Derived.Test.YtpamkihpffoflaaBx7
set_option linter.unusedVariables false
set_option maxRecDepth 100000
set_option maxHeartbeats 4000000
set_option linter.unusedSimpArgs false
namespace Go.Proofs.Ytpamkihpffoflaa
open Go.AF
theorem scI (v : List Int) : scL (v.flatMap i1) = true := by
  induction v with
  | nil => rfl
  | cons x r ih => exact ih
theorem oneI (v : List Int) : (((v.flatMap i1).map V.p).all oneV) = true := by
  simp only [List.all_map, List.all_flatMap, List.all_eq_true]
  intro s _ x hx
  simp [i1] at hx
  subst hx; rfl
theorem clone_ok (v : List Int) (h0 : 0 < v.length) (h8 : v.length ≤ 8) : ACalls Try.prog 46 ([intsV v].map .p) [] fun x H' => x = .row 0 v.length ∧ H' = [.row ((v.flatMap i1).map .p) 3] := by
  refine ACalls.start (N := 8) Try.func46 rfl rfl (Nat.le_of_ble_eq_true rfl) ?_
  refine AWp.seq ?_
  refine AWp.region ?_
  refine AList.c 2 rfl rfl rfl (OpJ.assign rfl rfl) ?_
  refine AList.nil ?_
  refine AWp.seq ?_
  refine AWp.seq ?_
  refine AWp.region ?_
  refine AList.c 3 rfl rfl rfl (OpJ.move rfl rfl) ?_
  refine AList.c 4 rfl rfl rfl (OpJ.eqNil rfl rfl rfl slz22 h0) ?_
  refine AList.nil ?_
  refine AWp.cond _ rfl (fun hc0 => ?_) (fun hc0 => ?_)
  · skip
    cases hc0
  · skip
    refine AWp.skip ?_
    refine AWp.seq ?_
    refine AWp.region ?_
    refine AList.c 5 rfl rfl rfl (OpJ.buildOwn rfl slz22 (by decide) rfl rfl) ?_
    refine AList.c 6 rfl rfl rfl (OpJ.move rfl rfl) ?_
    refine AList.c 7 rfl rfl rfl (OpJ.appendRow rfl rfl rfl slz22 sl22 rfl ?_ (asrc_is (by rw [flat_len (c := 1) (fun _ => rfl)]; rfl)) (oneI v) by3 (by decide) ?_) ?_
    · rfl
    · show (2 * (0 + v.length) + 192) * 8 ≤ 281474976710656; omega
    refine AList.c 2 rfl rfl rfl (OpJ.assign rfl rfl) ?_
    refine AList.nil ?_
    refine AWp.norm [1] [(2, .row 0 (0 + v.length))] [.row ((v.flatMap i1).map .p) 3] rfl (by repeat (first | exact Sub.nil | refine Sub.cons rfl ?_)) ?_ ?_
    · show [Blk.row (renL _ (_ ++ _)) _] = _
      rw [renL_app, renL_pure (pl [1]) (v.flatMap i1)]; rfl
    refine AWp.ret ?_
    exact ⟨.inr rfl, .row 0 (0 + v.length), resV.one rfl rfl, by rw [Nat.zero_add], rfl⟩
theorem btimes_ok (need : List Int) (b : Int) (h0 : 0 < need.length) (hn : okN need) (h8 : need.length ≤ 8) (b0 : 0 ≤ b) (b1 : b ≤ 10000000000) : Pure Try.prog 33 [intsV need, .int .i64 b] (intsV (timesV need b)) := by
  refine Pure.start (N := 23) Try.func33 rfl rfl (Nat.le_of_ble_eq_true rfl) ?_
  refine AWp.seq ?_
  refine AWp.region ?_
  refine AList.c 4 rfl rfl rfl (OpJ.assign rfl rfl) ?_
  refine AList.nil ?_
  refine AWp.seq ?_
  refine AWp.region ?_
  refine AList.c 7 rfl rfl rfl (OpJ.move rfl rfl) ?_
  refine AList.c 8 rfl rfl rfl (OpJ.callRow 3 (clone_ok need h0 h8) (scI need) rfl rfl rfl rfl rfl rf46) ?_
  refine AList.c 5 rfl rfl rfl (OpJ.assign rfl rfl) ?_
  refine AList.nil ?_
  refine AWp.seq ?_
  refine AWp.seq ?_
  refine AWp.region ?_
  refine AList.c 9 rfl rfl rfl (OpJ.move rfl rfl) ?_
  refine AList.c 10 rfl rfl rfl (OpJ.lenSlice rfl rfl sl22 rfl) ?_
  refine AList.c 11 rfl rfl rfl (OpJ.move rfl rfl) ?_
  refine AList.nil ?_
  refine AWp.block ?_
  refine AWp.loopH [6, 11, 12, 13, 14, 15, 16, 17, 18, 19, 20, 21] (fun g => [(11, .p (.int .i64 ((g : Nat) : Int)))]) (fun g => [.row (((updL need b g).flatMap i1).map .p) 3]) (fun g => g ≤ need.length) (fun g => need.length - g) 0 (Nat.zero_le _) (To.sub (Sub.chd (Sub.cons rfl Sub.nil))) (fun i hg => ?_)
  refine AWp.seq ?_
  refine AWp.region ?_
  refine AList.c 12 rfl rfl rfl (OpJ.lss rfl rfl rfl) ?_
  refine AList.nil ?_
  refine AWp.seq ?_
  refine AWp.cond _ rfl (fun hc0 => ?_) (fun hc0 => ?_)
  · skip
    have hk0 : i < need.length := by have h := of_decide_eq_true hc0; omega
    have hku : i < (updL need b i).length := by rw [updL_length need b i (by omega)]; exact hk0
    have hni := hn need[i] (List.getElem_mem _)
    have hmb := mul_B hni.1 hni.2 b0 b1
    refine AWp.skip ?_
    refine AWp.seq ?_
    refine AWp.block ?_
    refine AWp.seq ?_
    refine AWp.region ?_
    refine AList.c 13 rfl rfl rfl (OpJ.move rfl rfl) ?_
    refine AList.c 6 rfl rfl rfl (OpJ.assign rfl rfl) ?_
    refine AList.nil ?_
    refine AWp.region ?_
    refine AList.c 14 rfl rfl rfl (OpJ.move rfl rfl) ?_
    refine AList.c 15 rfl rfl rfl (OpJ.move rfl rfl) ?_
    refine AList.c 16 rfl rfl rfl (OpJ.indexRow rfl rfl rfl sl22 el22 hk0) ?_
    refine AList.c 17 rfl rfl rfl (OpJ.loadFlat (f := i1) (c := 1) (k := i) (j := 0) (xs := (updL need b i)) rfl rfl ty3 rfl rfl (by omega) (fun _ => rfl) hku (by decide) (show _ = PV.int .i64 need[i] from by rw [updL_get need b i hk0]; rfl)) ?_
    refine AList.c 18 rfl rfl rfl (OpJ.move rfl rfl) ?_
    refine AList.c 19 rfl rfl rfl (OpJ.mul (m := need[i] * b) rfl rfl rfl ((i64ok ?_).trans ?_)) ?_
    · rw [Int.mul_comm]; omega
    · rfl
    refine AList.c 20 rfl rfl rfl (OpJ.indexRow rfl rfl rfl sl22 el22 hk0) ?_
    refine AList.c0 rfl rfl (OpJ.storeRow (f := i1) (c := 1) (k := i) (j := 0) (xs := (updL need b i)) (z := (need[i] * b)) (ws := [_]) rfl rfl rfl rfl rfl ty3 rfl rfl rfl (by omega) (fun _ => rfl) hku (Nat.le_of_ble_eq_true rfl) rfl) ?_
    refine AList.nil ?_
    refine AWp.region ?_
    refine AList.c 21 rfl rfl rfl (OpJ.add rfl rfl rfl (i64ok ?_)) ?_
    · omega
    refine AList.c 11 rfl rfl rfl (OpJ.move rfl rfl) ?_
    refine AList.nil ?_
    refine ⟨i + 1, ?_, ?_, ?_⟩
    · omega
    · omega
    refine To.done [0] rfl (by repeat (first | exact Sub.nil | refine Sub.cons rfl ?_)) ?_
    show [Blk.row (renL _ _) _] = _
    rw [renL_pure, updL_set need b i hk0]
  · skip
    obtain rfl : i = need.length := by have h := of_decide_eq_false hc0; omega
    refine AWp.freeze 0 rfl (allP_map _) ?_
    refine AWp.exit ?_
    refine AWp.seq ?_
    refine AWp.region ?_
    refine AList.c 22 rfl rfl rfl (OpJ.move rfl rfl) ?_
    refine AList.c 4 rfl rfl rfl (OpJ.assign rfl rfl) ?_
    refine AList.nil ?_
    refine AWp.ret ?_
    refine Fin.oneE rfl rfl ?_
    unfold intsV
    rw [timesV_length, updL_full]
theorem worst_ok (v : List Int) (l : List Pl) (hv : okV v) (hl : okP v.length l) : Pure Try.prog 61 [stkV (stkM l l.length), intsV v, setsV v.length] (.tuple [.int .i64 ((lkF v l (allS v.length)).1 : Int), .int .i64 (lkF v l (allS v.length)).2]) := by
  have h8 := hv.1
  have hp := pow8 h8
  have hp1 := pow_pos' v.length
  have hA : allS v.length = 2 ^ v.length - 1 := rfl
  have eA := setsL_length v.length
  refine Pure.start (N := 32) Try.func61 rfl rfl (Nat.le_of_ble_eq_true rfl) ?_
  refine AWp.seq ?_
  refine AWp.region ?_
  refine AList.c 6 rfl rfl rfl (OpJ.assign rfl rfl) ?_
  refine AList.c 7 rfl rfl rfl (OpJ.assign rfl rfl) ?_
  refine AList.nil ?_
  refine AWp.seq ?_
  refine AWp.seq ?_
  refine AWp.region ?_
  refine AList.c 11 rfl rfl rfl (OpJ.move rfl rfl) ?_
  refine AList.c 12 rfl rfl rfl (OpJ.lenSlice rfl rfl sl83 rfl) ?_
  refine AList.c 13 rfl rfl rfl (OpJ.move rfl rfl) ?_
  refine AList.nil ?_
  refine AWp.block ?_
  refine AWp.loopK [6, 7, 9, 10, 13, 14, 15, 16, 17, 18, 19, 20, 21, 22, 23, 24, 25, 26, 27, 28, 29] (fun g => [(13, .p (.int .i64 ((g : Nat) : Int))), (6, .p (.int .i64 ((lkF v l g).1 : Int))), (7, .p (.int .i64 (lkF v l g).2))]) (fun g => g ≤ (setsL v.length).length) (fun g => (setsL v.length).length - g) 0 (Nat.zero_le _) (Sub.cons rfl (Sub.cons rfl (Sub.cons rfl (Sub.nil)))) (fun i hg => ?_)
  have hb3 := lkF_B hv hl i
  refine AWp.seq ?_
  refine AWp.region ?_
  refine AList.c 14 rfl rfl rfl (OpJ.lss rfl rfl rfl) ?_
  refine AList.nil ?_
  refine AWp.seq ?_
  refine AWp.cond _ rfl (fun hc0 => ?_) (fun hc0 => ?_)
  · skip
    have hk0 : i < (setsL v.length).length := by have h := of_decide_eq_true hc0; omega
    have es := setsL_get v.length i hk0
    have hs1 := sumS_B hv (setsL v.length)[i]
    have hs2 := ofP_BB hl (setsL v.length)[i]
    refine AWp.skip ?_
    refine AWp.seq ?_
    refine AWp.block ?_
    refine AWp.seq ?_
    refine AWp.region ?_
    refine AList.c 15 rfl rfl rfl (OpJ.indexEl rfl rfl rfl sl83 el83 rfl (fun _ => rfl) (by decide) hk0) ?_
    refine AList.c 16 rfl rfl rfl (OpJ.load rfl rfl ty64 rfl) ?_
    refine AList.c 9 rfl rfl rfl (OpJ.assign rfl rfl) ?_
    refine AList.nil ?_
    refine AWp.seq ?_
    refine AWp.region ?_
    refine AList.c 17 rfl rfl rfl (OpJ.move rfl rfl) ?_
    refine AList.c 18 rfl rfl rfl (OpJ.move rfl rfl) ?_
    refine AList.c 19 rfl rfl rfl (OpJ.callP (bsum_ok v (setsL v.length)[i] hv ?_) rfl rfl rfl rfl rf37) ?_
    · rw [es]; omega
    refine AList.c 20 rfl rfl rfl (OpJ.move rfl rfl) ?_
    refine AList.c 21 rfl rfl rfl (OpJ.move rfl rfl) ?_
    refine AList.c 22 rfl rfl rfl (OpJ.callP (bof_ok v.length l (setsL v.length)[i] h8 hl ?_) rfl rfl rfl rfl rf36) ?_
    · rw [es]; omega
    refine AList.c 23 rfl rfl rfl (OpJ.sub_ rfl rfl rfl (i64ok ?_)) ?_
    · omega
    refine AList.c 10 rfl rfl rfl (OpJ.assign rfl rfl) ?_
    refine AList.nil ?_
    refine AWp.seq ?_
    refine AWp.region ?_
    refine AList.c 24 rfl rfl rfl (OpJ.move rfl rfl) ?_
    refine AList.c 25 rfl rfl rfl (OpJ.move rfl rfl) ?_
    refine AList.c 26 rfl rfl rfl (OpJ.gtr rfl rfl rfl) ?_
    refine AList.nil ?_
    refine AWp.cond _ rfl (fun hc1 => ?_) (fun hc1 => ?_)
    · skip
      refine AWp.region ?_
      refine AList.c 27 rfl rfl rfl (OpJ.move rfl rfl) ?_
      refine AList.c 28 rfl rfl rfl (OpJ.move rfl rfl) ?_
      refine AList.c 6 rfl rfl rfl (OpJ.assign rfl rfl) ?_
      refine AList.c 7 rfl rfl rfl (OpJ.assign rfl rfl) ?_
      refine AList.nil ?_
      refine AWp.region ?_
      refine AList.c 29 rfl rfl rfl (OpJ.add rfl rfl rfl (i64ok ?_)) ?_
      · omega
      refine AList.c 13 rfl rfl rfl (OpJ.move rfl rfl) ?_
      refine AList.nil ?_
      refine ⟨i + 1, ?_, ?_, ?_⟩
      · omega
      · omega
      refine To.done [] rfl ?_ rfl
      rw [es] at hc1 ⊢
      refine Sub.cons rfl (Sub.cons ?_ (Sub.cons ?_ (by repeat (first | exact Sub.nil | refine Sub.cons rfl ?_)))) <;> (simp only [lkF]; rw [if_pos (by simpa using hc1)]; rfl)
    · skip
      refine AWp.skip ?_
      refine AWp.region ?_
      refine AList.c 29 rfl rfl rfl (OpJ.add rfl rfl rfl (i64ok ?_)) ?_
      · omega
      refine AList.c 13 rfl rfl rfl (OpJ.move rfl rfl) ?_
      refine AList.nil ?_
      refine ⟨i + 1, ?_, ?_, ?_⟩
      · omega
      · omega
      refine To.done [] rfl ?_ rfl
      rw [es] at hc1
      refine Sub.cons rfl (Sub.cons ?_ (Sub.cons ?_ (by repeat (first | exact Sub.nil | refine Sub.cons rfl ?_)))) <;> (simp only [lkF]; rw [if_neg (by simpa using hc1)]; rfl)
  · skip
    obtain rfl : i = (setsL v.length).length := by have h := of_decide_eq_false hc0; omega
    rw [eA]
    refine AWp.exit ?_
    refine AWp.seq ?_
    refine AWp.region ?_
    refine AList.c 30 rfl rfl rfl (OpJ.move rfl rfl) ?_
    refine AList.c 31 rfl rfl rfl (OpJ.move rfl rfl) ?_
    refine AList.c 6 rfl rfl rfl (OpJ.assign rfl rfl) ?_
    refine AList.c 7 rfl rfl rfl (OpJ.assign rfl rfl) ?_
    refine AList.nil ?_
    refine AWp.ret ?_
    exact Fin.many (xs := [.int .i64 ((lkF v l (allS v.length)).1 : Int), .int .i64 (lkF v l (allS v.length)).2]) rfl (⟨_, _, rfl, rfl, ⟨_, _, rfl, rfl, rfl⟩⟩) rfl
end Go.Proofs.Ytpamkihpffoflaa
