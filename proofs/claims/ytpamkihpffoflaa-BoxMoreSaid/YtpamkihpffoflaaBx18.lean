/-
  How many pencils of a pile are needed.
-/
import Derived.Test.YtpamkihpffoflaaBxFactsB
import Derived.Test.YtpamkihpffoflaaBx17
set_option linter.unusedVariables false
set_option maxRecDepth 100000
set_option maxHeartbeats 4000000
set_option linter.unusedSimpArgs false
namespace Go.Proofs.Ytpamkihpffoflaa
open Go.AF
theorem buse_ok (need : List Int) (l : List Pr) (b : Int) (k : Int) (hnl : need.length ≤ bigN) (hll : l.length ≤ bigN) : Pure Try.prog 18 [intsV need, rawV l, .int .i64 b, .int .i64 k] (.tuple [.agg [.int .i64 (useR need l b k).1, .int .i64 (useR need l b k).2.1], .int .i64 (useR need l b k).2.2]) := by
  refine Pure.start (N := 59) Try.func18 rfl rfl (Nat.le_of_ble_eq_true rfl) ?_
  refine AWp.seq ?_
  refine AWp.region ?_
  refine AList.c 5 rfl rfl rfl (OpJ.boxImm rfl rfl rfl) ?_
  refine AList.c 7 rfl rfl rfl (OpJ.boxImm rfl rfl rfl) ?_
  refine AList.c 8 rfl rfl rfl (OpJ.allocOwn rfl zr35 rfl) ?_
  refine AList.c 9 rfl rfl rfl (OpJ.assign rfl rfl) ?_
  refine AList.nil ?_
  refine AWp.seq ?_
  refine AWp.seq ?_
  refine AWp.region ?_
  refine AList.c 14 rfl rfl rfl (OpJ.move rfl rfl) ?_
  refine AList.c 15 rfl rfl rfl (OpJ.load rfl rfl ty23 rfl) ?_
  refine AList.c 16 rfl rfl rfl (OpJ.move rfl rfl) ?_
  refine AList.c 17 rfl rfl rfl (OpJ.callP (bcheck_ok need l b hnl hll) rfl rfl rfl rfl rf39) ?_
  refine AList.c 10 rfl rfl rfl (OpJ.assign rfl rfl) ?_
  refine AList.nil ?_
  refine AWp.block ?_
  refine AWp.seq ?_
  refine AWp.region ?_
  refine AList.c 19 rfl rfl rfl (OpJ.move rfl rfl) ?_
  refine AList.c 20 rfl rfl rfl (OpJ.neq rfl rfl rfl) ?_
  refine AList.c 18 rfl rfl rfl (OpJ.assign rfl rfl) ?_
  refine AList.nil ?_
  refine AWp.cond _ rfl (fun hc0 => ?_) (fun hc0 => ?_)
  · skip
    have hc : checkR need l b ≠ 0 := by simpa using hc0
    refine AWp.seq ?_
    refine AWp.region ?_
    refine AList.c 21 rfl rfl rfl (OpJ.build rfl bd35 rfl rfl) ?_
    refine AList.c 22 rfl rfl rfl (OpJ.move rfl rfl) ?_
    refine AList.c0 rfl rfl (OpJ.store rfl rfl rfl rfl rfl ty35 rfl rfl) ?_
    refine AList.c 9 rfl rfl rfl (OpJ.assign rfl rfl) ?_
    refine AList.nil ?_
    refine AWp.ret ?_
    have e : useR need l b k = (0, 0, checkR need l b) := by unfold useR; rw [if_neg hc]
    rw [e]
    exact Fin.many (xs := [.agg [.int .i64 (0), .int .i64 (0)], .int .i64 (checkR need l b)]) rfl (⟨_, _, rfl, ⟨_, _, _, rfl, ty35, rfl⟩, ⟨_, _, rfl, rfl, rfl⟩⟩) rfl
  · skip
    have hc : checkR need l b = 0 := by simpa using hc0
    obtain ⟨hV, hb⟩ := checkR_zero hc
    have hn : okN need := hV.2.2.1
    have h8 := hV.1.2
    have h0 := hV.1.1
    have hL := toPl_ok hV
    rw [toPl_raw hV]
    have hp := pow8 h8
    have hp1 := pow_pos' need.length
    have hA : allS need.length = 2 ^ need.length - 1 := rfl
    have hl8 := hL.1
    have hvt := timesV_ok (b := b) hn h8 (by omega) (by omega)
    refine AWp.seq ?_
    refine AWp.region ?_
    refine AList.c 24 rfl rfl rfl (OpJ.load rfl rfl ty3 rfl) ?_
    refine AList.c 25 rfl rfl rfl (OpJ.load rfl rfl ty23 rfl) ?_
    refine AList.c 26 rfl rfl rfl (OpJ.lenSlice rfl rfl sl23 rfl) ?_
    refine AList.c 27 rfl rfl rfl (OpJ.sub_ rfl rfl rfl (i64ok ?_)) ?_
    · omega
    refine AList.c 28 rfl rfl rfl (OpJ.callP (within_ok _ _ _) rfl rfl rfl rfl rf49) ?_
    refine AList.c 29 rfl rfl rfl (OpJ.not_ rfl rfl) ?_
    refine AList.c 23 rfl rfl rfl (OpJ.assign rfl rfl) ?_
    refine AList.nil ?_
    refine AWp.cond _ rfl (fun hc1 => ?_) (fun hc1 => ?_)
    · skip
      have hkk : ¬ (0 ≤ k ∧ k ≤ ((toPl l).length : Int) - 1) := by simp at hc1; omega
      refine AWp.seq ?_
      refine AWp.region ?_
      refine AList.c 30 rfl rfl rfl (OpJ.build rfl bd35 rfl rfl) ?_
      refine AList.c0 rfl rfl (OpJ.store rfl rfl rfl rfl rfl ty35 rfl rfl) ?_
      refine AList.c 9 rfl rfl rfl (OpJ.assign rfl rfl) ?_
      refine AList.nil ?_
      refine AWp.ret ?_
      have e : useR need l b k = (0, 0, 2) := by unfold useR; rw [if_pos hc, if_neg hkk]
      rw [e]
      exact Fin.many (xs := [.agg [.int .i64 (0), .int .i64 (0)], .int .i64 (2)]) rfl (⟨_, _, rfl, ⟨_, _, _, rfl, ty35, rfl⟩, ⟨_, _, rfl, rfl, rfl⟩⟩) rfl
    · skip
      have hkk : 0 ≤ k ∧ k ≤ ((toPl l).length : Int) - 1 := by simp at hc1; omega
      obtain ⟨kk, rfl⟩ := Int.eq_ofNat_of_zero_le hkk.1
      have hk0 : kk < (toPl l).length := by omega
      have hpk := hL.2 (toPl l)[kk] (List.getElem_mem _)
      have hsv := sumS_B hvt (toPl l)[kk].s
      have hst := sumS_times need b (toPl l)[kk].s
      have hel : (toPl l)[kk]?.getD ⟨0, 0⟩ = (toPl l)[kk] := by simp [hk0]
      refine AWp.skip ?_
      refine AWp.seq ?_
      refine AWp.region ?_
      refine AList.c 31 rfl rfl rfl (OpJ.move rfl rfl) ?_
      refine AList.c 32 rfl rfl rfl (OpJ.move rfl rfl) ?_
      refine AList.c 33 rfl rfl rfl (OpJ.callP (btimes_ok need b h0 hn h8 (by omega) (by omega)) rfl rfl rfl rfl rf33) ?_
      refine AList.c 11 rfl rfl rfl (OpJ.allocOwn rfl zr22 rfl) ?_
      refine AList.c0 rfl rfl (OpJ.store rfl rfl rfl rfl rfl ty22 rfl rfl) ?_
      refine AList.nil ?_
      refine AWp.seq ?_
      refine AWp.seq ?_
      refine AWp.region ?_
      refine AList.c 34 rfl rfl rfl (OpJ.load rfl rfl ty22 rfl) ?_
      refine AList.c 35 rfl rfl rfl (OpJ.load rfl rfl ty23 rfl) ?_
      refine AList.c 36 rfl rfl rfl (OpJ.callP (can_t need (toPl l) b h0 hn h8 hL (by omega) (by omega)) rfl rfl rfl rfl rf32) ?_
      refine AList.c 37 rfl rfl rfl (OpJ.not_ rfl rfl) ?_
      refine AList.nil ?_
      refine AWp.cond _ rfl (fun hc2 => ?_) (fun hc2 => ?_)
      · skip
        have hz : ¬ (lkF (timesV need b) (toPl l) (allS need.length)).2 = 0 := by simpa [canB] using hc2
        refine AWp.seq ?_
        refine AWp.region ?_
        refine AList.c 38 rfl rfl rfl (OpJ.build rfl bd35 rfl rfl) ?_
        refine AList.c0 rfl rfl (OpJ.store rfl rfl rfl rfl rfl ty35 rfl rfl) ?_
        refine AList.c 9 rfl rfl rfl (OpJ.assign rfl rfl) ?_
        refine AList.nil ?_
        refine AWp.ret ?_
        have e : useR need l b (kk : Int) = (0, 0, 10) := by unfold useR; rw [if_pos hc, if_pos hkk, if_neg hz]
        rw [e]
        exact Fin.many (xs := [.agg [.int .i64 (0), .int .i64 (0)], .int .i64 (10)]) rfl (⟨_, _, rfl, ⟨_, _, _, rfl, ty35, rfl⟩, ⟨_, _, rfl, rfl, rfl⟩⟩) rfl
      · skip
        have hz : (lkF (timesV need b) (toPl l) (allS need.length)).2 = 0 := by simpa [canB] using hc2
        obtain ⟨n, r, hmn, hn8, hnd, hrn, hcut1, hcut2⟩ := spare_cut hL hk0 hz
        have eT : intsV (timesV need b) = .is ((timesV need b).flatMap i1) need.length := by unfold intsV; rw [timesV_length]
        refine AWp.skip ?_
        refine AWp.seq ?_
        refine AWp.region ?_
        refine AList.c 39 rfl rfl rfl (OpJ.load rfl rfl ty23 rfl) ?_
        refine AList.c 40 rfl rfl rfl (OpJ.load rfl rfl ty3 rfl) ?_
        refine AList.c 41 rfl rfl rfl (OpJ.indexEl rfl rfl rfl sl23 el23 rfl (fun _ => rfl) (by decide) hk0) ?_
        refine AList.c 42 rfl rfl rfl (OpJ.load rfl rfl ty46 rfl) ?_
        refine AList.c 12 rfl rfl rfl (OpJ.allocOwn rfl zr46 rfl) ?_
        refine AList.c0 rfl rfl (OpJ.store rfl rfl rfl rfl rfl ty46 rfl rfl) ?_
        refine AList.nil ?_
        refine AWp.seq ?_
        refine AWp.region ?_
        refine AList.c 43 rfl rfl rfl (OpJ.fieldAddr rfl rfl fd46_1 rfl) ?_
        refine AList.c 44 rfl rfl rfl (OpJ.load rfl rfl ty3 rfl) ?_
        refine AList.c 45 rfl rfl rfl (OpJ.makeFunc rfl rfl rfl) ?_
        rw [hmn, eT]
        refine AList.c 46 rfl rfl rfl (OpJ.callB 3 (great_ok n r (.func 50) [] [.ip [plV (toPl l)] 0, .ip [.int .i64 (kk : Int)] 0, .ip [.is ((timesV need b).flatMap i1) need.length] 0] (fun e => spareB (timesV need b) (toPl l) kk need.length e) hn8 hrn hcut1 hcut2 (fun e he => ⟨50, .int .i64 ((e + 1 : Nat) : Int) :: [.ip [plV (toPl l)] 0, .ip [.int .i64 (kk : Int)] 0, .ip [.is ((timesV need b).flatMap i1) need.length] 0], rfl, rf50, use1_ok (timesV need b) need.length kk (e + 1) (toPl l) (timesV_length _ _) h0 hk0 hvt hL (by omega)⟩)) rfl rfl rfl rfl rfl (mapO.c brwP (mapO.c (brwFunc mapO.n (mapO.c brwP (mapO.c brwP (mapO.c (brwPtrV rfl brwP) mapO.n)))) mapO.n)) rf30) ?_
        rw [← eT]
        refine AList.c 13 rfl rfl rfl (OpJ.assign rfl rfl) ?_
        refine AList.nil ?_
        refine AWp.seq ?_
        refine AWp.regionDraw 12 mixed (by kernel_rfl) (by decide) ?_
        refine AQuiet.cons 47 rfl rfl rfl (OpJ.fieldAddr rfl rfl fd46_1 rfl) ?_
        refine AQuiet.cons 48 rfl rfl rfl (OpJ.load rfl rfl ty3 rfl) ?_
        refine AQuiet.cons 49 rfl rfl rfl (OpJ.move rfl rfl) ?_
        refine AQuiet.cons 50 rfl rfl rfl (OpJ.sub_ (m := needF (timesV need b) (toPl l) kk need.length) rfl rfl rfl ((i64ok ?_).trans ?_)) ?_
        · omega
        · exact hnd.symm
        refine AQuiet.cons 51 rfl rfl rfl (OpJ.fieldAddr rfl rfl fd46_1 rfl) ?_
        refine AQuiet.cons 52 rfl rfl rfl (OpJ.load rfl rfl ty3 rfl) ?_
        refine AQuiet.cons 53 rfl rfl rfl (OpJ.fieldAddr rfl rfl fd46_0 rfl) ?_
        refine AQuiet.cons 54 rfl rfl rfl (OpJ.load rfl rfl ty3 rfl) ?_
        refine AQuiet.cons 55 rfl rfl rfl (OpJ.load rfl rfl ty22 rfl) ?_
        refine AQuiet.cons 56 rfl rfl rfl (OpJ.callP (bsum_ok (timesV need b) (toPl l)[kk].s hvt (by omega)) rfl rfl rfl rfl rf37) ?_
        refine AQuiet.cons 57 rfl rfl rfl (OpJ.min2 rfl rfl rfl) ?_
        refine AQuiet.cons 58 rfl rfl rfl (OpJ.build rfl bd35 rfl rfl) ?_
        refine AQuiet.nil ?_
        refine AList.c0 rfl rfl (OpJ.store rfl rfl rfl rfl rfl ty35 rfl rfl) ?_
        refine AList.c 9 rfl rfl rfl (OpJ.assign rfl rfl) ?_
        refine AList.nil ?_
        refine AWp.ret ?_
        have e : useR need l b (kk : Int) = (needF (timesV need b) (toPl l) kk need.length, min (toPl l)[kk].m (sumS (timesV need b) (toPl l)[kk].s), 0) := by unfold useR; rw [if_pos hc, if_pos hkk, if_pos hz, Int.toNat_natCast, hel]
        rw [e]
        exact Fin.many (xs := [.agg [.int .i64 (needF (timesV need b) (toPl l) kk need.length), .int .i64 (min (toPl l)[kk].m (sumS (timesV need b) (toPl l)[kk].s))], .int .i64 (0)]) rfl (⟨_, _, rfl, ⟨_, _, _, rfl, ty35, rfl⟩, ⟨_, _, rfl, rfl, rfl⟩⟩) rfl
end Go.Proofs.Ytpamkihpffoflaa
