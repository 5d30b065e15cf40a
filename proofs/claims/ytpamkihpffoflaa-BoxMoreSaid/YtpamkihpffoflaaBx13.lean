/-
  How many boxes, in the text.
-/
import Derived.Test.YtpamkihpffoflaaBx12
import Derived.Test.YtpamkihpffoflaaBxR
import Derived.Test.YtpamkihpffoflaaAfE
set_option linter.unusedVariables false
set_option maxRecDepth 100000
set_option maxHeartbeats 4000000
set_option linter.unusedSimpArgs false
namespace Go.Proofs.Ytpamkihpffoflaa
open Go.AF
theorem bmost_ok (need : List Int) (l : List Pr) (hnl : need.length ≤ bigN) (hll : l.length ≤ bigN) : Pure Try.prog 12 [intsV need, rawV l] (.tuple [.int .i64 (mostR need l).1, .int .i64 (mostR need l).2.1, .int .i64 (mostR need l).2.2]) := by
  refine Pure.start (N := 35) Try.func12 rfl rfl (Nat.le_of_ble_eq_true rfl) ?_
  refine AWp.seq ?_
  refine AWp.region ?_
  refine AList.c 2 rfl rfl rfl (OpJ.boxImm rfl rfl rfl) ?_
  refine AList.c 3 rfl rfl rfl (OpJ.boxImm rfl rfl rfl) ?_
  refine AList.c 4 rfl rfl rfl (OpJ.allocOwn rfl zr3 rfl) ?_
  refine AList.c 5 rfl rfl rfl (OpJ.allocOwn rfl zr3 rfl) ?_
  refine AList.c 6 rfl rfl rfl (OpJ.allocOwn rfl zr26 rfl) ?_
  refine AList.nil ?_
  refine AWp.scope ?_
  refine AWp.seq ?_
  refine AWp.seq ?_
  refine AWp.region ?_
  refine AList.c 10 rfl rfl rfl (OpJ.load rfl rfl ty22 rfl) ?_
  refine AList.c 11 rfl rfl rfl (OpJ.load rfl rfl ty23 rfl) ?_
  refine AList.c 12 rfl rfl rfl (OpJ.callP (isValid_ok need l hnl hll) rfl rfl rfl rfl rf29) ?_
  refine AList.c 13 rfl rfl rfl (OpJ.not_ rfl rfl) ?_
  refine AList.nil ?_
  refine AWp.cond _ rfl (fun hc0 => ?_) (fun hc0 => ?_)
  · skip
    refine AWp.seq ?_
    refine AWp.region ?_
    refine AList.c0 rfl rfl (OpJ.store rfl rfl rfl rfl rfl ty3 rfl rfl) ?_
    refine AList.c0 rfl rfl (OpJ.store rfl rfl rfl rfl rfl ty3 rfl rfl) ?_
    refine AList.c0 rfl rfl (OpJ.store rfl rfl rfl rfl rfl ty26 rfl rfl) ?_
    refine AList.nil ?_
    refine AWp.ret ?_
    have hV : ¬ Vld need l := by simpa using hc0
    have e : mostR need l = (0, 0, 1) := by unfold mostR; rw [if_neg hV]
    rw [e]
    exact Fin.many (xs := [.int .i64 0, .int .i64 0, .int .i64 1]) rfl (⟨_, _, rfl, ⟨_, _, _, rfl, ty3, rfl⟩, ⟨_, _, rfl, ⟨_, _, _, rfl, ty3, rfl⟩, ⟨_, _, rfl, ⟨_, _, _, rfl, ty26, rfl⟩, rfl⟩⟩⟩) rfl
  · skip
    have hV : Vld need l := by simpa using hc0
    have hn : okN need := hV.2.2.1
    have h8 := hV.1.2
    have hL := toPl_ok hV
    have hv := okN_okV hn h8
    rw [toPl_raw hV]
    have hp := pow8 h8
    have hp1 := pow_pos' need.length
    have hA : allS need.length = 2 ^ need.length - 1 := rfl
    have eA := setsL_length need.length
    obtain ⟨r, hq, hr8, hcut1, hcut2⟩ := most_cut hV
    have hvt := timesV_ok (b := (r : Int) + 1) hn h8 (by omega) (by omega)
    refine AWp.skip ?_
    refine AWp.seq ?_
    refine AWp.region ?_
    refine AList.c 14 rfl rfl rfl (OpJ.makeFunc rfl rfl rfl) ?_
    refine AList.c 15 rfl rfl rfl (OpJ.callP (great_ok 8388608 r (.func 31) [] [.ip [intsV need] 0, .ip [plV (toPl l)] 0] (fun i => canB need (toPl l) ((i : Nat) : Int)) (by omega) hr8 hcut1 hcut2 (fun i hi => ⟨31, [.int .i64 ((i + 1 : Nat) : Int), .ip [intsV need] 0, .ip [plV (toPl l)] 0], rfl, rf31, most1_ok need (toPl l) _ hV.1.1 hn h8 hL (by omega) (by omega)⟩)) rfl rfl rfl rfl rf30) ?_
    refine AList.c0 rfl rfl (OpJ.store rfl rfl rfl rfl rfl ty3 rfl rfl) ?_
    refine AList.nil ?_
    refine AWp.seq ?_
    refine AWp.regionDrawG 8 2 [3, 4] [([], false), ([], false), ([], false), ([], false), ([], false), ([], false), ([3], true), ([4], true)] mixed (by kernel_rfl) (by decide) (by kernel_rfl) rfl rfl ?_
    refine AQG.cons 16 rfl rfl rfl (fun _ => (OpJ.load rfl rfl ty23 rfl)) rfl ?_
    refine AQG.cons 17 rfl rfl rfl (fun _ => (OpJ.callP (newStock_ok need.length (toPl l) h8 hL) rfl rfl rfl rfl rf34)) rfl ?_
    refine AQG.cons 18 rfl rfl rfl (fun _ => (OpJ.load rfl rfl ty22 rfl)) rfl ?_
    refine AQG.cons 19 rfl rfl rfl (fun _ => (OpJ.load rfl rfl ty3 rfl)) rfl ?_
    refine AQG.cons 20 rfl rfl rfl (fun _ => (OpJ.add rfl rfl rfl (i64ok ?_))) rfl ?_
    · omega
    refine AQG.cons 21 rfl rfl rfl (fun _ => (OpJ.callP (btimes_ok need ((r : Int) + 1) hV.1.1 hn h8 (by omega) (by omega)) rfl rfl rfl rfl rf33)) rfl ?_
    refine AQG.lay (v0 := .ptr 5 0) 7 3 rfl rfl rfl rfl rfl rfl rfl rfl (fun _ => (OpJ.allocOwn rfl zr59 rfl)) rfl rfl rfl ?_
    refine AQG.lay (v0 := .ptr 5 0) 8 4 rfl rfl rfl rfl rfl rfl rfl rfl (fun _ => (OpJ.allocOwn rfl zr22 rfl)) rfl rfl rfl ?_
    refine AQG.nil ?_
    refine AList.c0 rfl rfl (OpJ.store rfl rfl rfl rfl rfl ty59 rfl rfl) ?_
    refine AList.c0 rfl rfl (OpJ.store rfl rfl rfl rfl rfl ty22 rfl rfl) ?_
    refine AList.nil ?_
    refine AWp.seq ?_
    refine AWp.label ?_
    refine AWp.seq ?_
    refine AWp.seq ?_
    refine AWp.region ?_
    refine AList.c 22 rfl rfl rfl (OpJ.load rfl rfl ty22 rfl) ?_
    refine AList.c 23 rfl rfl rfl (OpJ.lenSlice rfl rfl sl22 rfl) ?_
    refine AList.c 24 rfl rfl rfl (OpJ.callP (sets_ok need.length) rfl rfl rfl rfl rf35) ?_
    refine AList.nil ?_
    refine AWp.block ?_
    refine AWp.rangeFunc 0 rfl (fun _ => rfl) rf59 (sets_seq need.length h8) (Nat.le_refl _) (Nat.zero_le _) (fun _ h => by cases h) (fun x hx => by simp at hx; obtain ⟨j, _, rfl⟩ := hx; rfl) rfl (fun k h => pfF need (toPl l) ((r : Int) + 1) k = 0 ∧ h = [.cells [.p (.int .i64 (r : Int))] 3, .cells [.p (.int .i64 0)] 3, .cells [.p (.int .i64 0)] 26, .cells [.p (stkV (stkM (toPl l) (toPl l).length))] 59, .cells [.p (intsV (timesV need ((r : Int) + 1)))] 22]) (fun c h => c = Code.ret ∧ pfF need (toPl l) ((r : Int) + 1) (allS need.length) ≠ 0 ∧ h = [.cells [.p (.int .i64 (r : Int))] 3, .cells [.p (.int .i64 ((pfF need (toPl l) ((r : Int) + 1) (allS need.length) : Nat) : Int))] 3, .cells [.p (.int .i64 0)] 26, .cells [.p (stkV (stkM (toPl l) (toPl l).length))] 59, .cells [.p (intsV (timesV need ((r : Int) + 1)))] 22]) (fun _ _ h => by rw [h.2]; rfl) (fun _ _ h => by rw [h.2.2]; rfl) ⟨rfl, rfl⟩ ?_ ?_ ?_
    · skip
      intro lx tmps k h x hJ hx
      obtain ⟨hpf, rfl⟩ := hJ
      have hk : k < (setsL need.length).length := by have := (List.getElem?_eq_some_iff.1 hx).1; simpa using this
      obtain rfl : x = [.p (.int .i64 (((setsL need.length)[k] : Nat) : Int))] := by rw [List.getElem?_map, List.getElem?_eq_getElem hk] at hx; simpa using hx.symm
      have es := setsL_get need.length k hk
      refine AWp.region ?_
      refine AList.c 9 rfl rfl rfl (OpJ.assign rfl rfl) ?_
      refine AList.nil ?_
      refine ⟨rfl, rfl, ?_⟩
      refine AWp.block ?_
      refine AWp.seq ?_
      refine AWp.seq ?_
      refine AWp.regionDraw 7 mixed (by kernel_rfl) (by decide) ?_
      refine AQuiet.cons 26 rfl rfl rfl (OpJ.load rfl rfl ty59 rfl) ?_
      refine AQuiet.cons 27 rfl rfl rfl (OpJ.move rfl rfl) ?_
      refine AQuiet.cons 28 rfl rfl rfl (OpJ.callP (bof_ok need.length (toPl l) (setsL need.length)[k] h8 hL (by rw [es]; omega)) rfl rfl rfl rfl rf36) ?_
      refine AQuiet.cons 29 rfl rfl rfl (OpJ.move rfl rfl) ?_
      refine AQuiet.cons 30 rfl rfl rfl (OpJ.load rfl rfl ty22 rfl) ?_
      refine AQuiet.cons 31 rfl rfl rfl (OpJ.callP (bsum_ok (timesV need ((r : Int) + 1)) (setsL need.length)[k] hvt (by rw [es]; omega)) rfl rfl rfl rfl rf37) ?_
      refine AQuiet.cons 32 rfl rfl rfl (OpJ.geq rfl rfl rfl) ?_
      refine AQuiet.nil ?_
      refine AList.nil ?_
      refine AWp.cond _ rfl (fun hc1 => ?_) (fun hc1 => ?_)
      · skip
        have h4 : ¬ ofP (toPl l) (k + 1) < ((r : Int) + 1) * sumS need (k + 1) := by have h := of_decide_eq_true hc1; rw [es, sumS_times] at h; omega
        refine AWp.exit ?_
        exact ⟨_, ⟨by rw [pfF, if_pos hpf, if_neg h4], rfl⟩, To.done [0, 1, 2, 3, 4, 5] rfl Sub.nil rfl⟩
      · skip
        have h4 : ofP (toPl l) (k + 1) < ((r : Int) + 1) * sumS need (k + 1) := by have h := of_decide_eq_false hc1; rw [es, sumS_times] at h; omega
        have h5 : pfF need (toPl l) ((r : Int) + 1) (k + 1) = k + 1 := by rw [pfF, if_pos hpf, if_pos h4]
        have h6 : pfF need (toPl l) ((r : Int) + 1) (allS need.length) = k + 1 := (pfF_le (show k + 1 ≤ allS need.length by omega) (by rw [h5]; omega)).trans h5
        refine AWp.skip ?_
        refine AWp.seq ?_
        refine AWp.region ?_
        refine AList.c 33 rfl rfl rfl (OpJ.load rfl rfl ty3 rfl) ?_
        refine AList.c 34 rfl rfl rfl (OpJ.move rfl rfl) ?_
        refine AList.c0 rfl rfl (OpJ.store rfl rfl rfl rfl rfl ty3 rfl rfl) ?_
        refine AList.c0 rfl rfl (OpJ.store rfl rfl rfl rfl rfl ty3 rfl rfl) ?_
        refine AList.c0 rfl rfl (OpJ.store rfl rfl rfl rfl rfl ty26 rfl rfl) ?_
        refine AList.nil ?_
        refine AWp.ret ?_
        exact ⟨_, ⟨rfl, by rw [h6]; omega, rfl⟩, To.done [0, 1, 2, 3, 4, 5] rfl Sub.nil (by rw [h6, ← es]; rfl)⟩
    · skip
      intro h hJ
      obtain ⟨hpf, rfl⟩ := hJ
      rw [List.length_map, eA] at hpf
      refine AWp.seq ?_
      refine AWp.region ?_
      refine AList.c0 rfl rfl (OpJ.store rfl rfl rfl rfl rfl ty3 rfl rfl) ?_
      refine AList.c0 rfl rfl (OpJ.store rfl rfl rfl rfl rfl ty3 rfl rfl) ?_
      refine AList.c0 rfl rfl (OpJ.store rfl rfl rfl rfl rfl ty26 rfl rfl) ?_
      refine AList.nil ?_
      refine AWp.ret ?_
      have e : mostR need l = (0, 0, 4) := by unfold mostR; rw [if_pos hV, hq, if_pos hpf]
      rw [e]
      exact Fin.many (xs := [.int .i64 0, .int .i64 0, .int .i64 4]) rfl (⟨_, _, rfl, ⟨_, _, _, rfl, ty3, rfl⟩, ⟨_, _, rfl, ⟨_, _, _, rfl, ty3, rfl⟩, ⟨_, _, rfl, ⟨_, _, _, rfl, ty26, rfl⟩, rfl⟩⟩⟩) rfl
    · skip
      intro c h hx
      obtain ⟨rfl, hne, rfl⟩ := hx
      refine AWp.ret ?_
      have e : mostR need l = ((r : Int), ((pfF need (toPl l) ((r : Int) + 1) (allS need.length) : Nat) : Int), 0) := by unfold mostR; rw [if_pos hV, hq, if_neg hne]
      rw [e]
      exact Fin.many (xs := [.int .i64 (r : Int), .int .i64 ((pfF need (toPl l) ((r : Int) + 1) (allS need.length) : Nat) : Int), .int .i64 0]) rfl (⟨_, _, rfl, ⟨_, _, _, rfl, ty3, rfl⟩, ⟨_, _, rfl, ⟨_, _, _, rfl, ty3, rfl⟩, ⟨_, _, rfl, ⟨_, _, _, rfl, ty26, rfl⟩, rfl⟩⟩⟩) rfl
end Go.Proofs.Ytpamkihpffoflaa
