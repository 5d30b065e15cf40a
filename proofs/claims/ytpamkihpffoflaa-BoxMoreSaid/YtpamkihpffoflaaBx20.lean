/-
  Assignments; the law BoxFilled.
-/
import Derived.Test.YtpamkihpffoflaaBxFactsC
import Derived.Test.YtpamkihpffoflaaBx19
import Derived.Test.YtpamkihpffoflaaBxG
set_option linter.unusedVariables false
set_option maxRecDepth 100000
set_option maxHeartbeats 4000000
set_option linter.unusedSimpArgs false
namespace Go.Proofs.Ytpamkihpffoflaa
open Go.AF
theorem good_ok (need : List Int) (l : List Pl) (b : Int) (rows : List (List Int)) (h0 : 0 < need.length) (hn : okN need) (h8 : need.length ≤ 8) (hl : okP need.length l) (b0 : 0 ≤ b) (b1 : b ≤ 1048576) (hA : Asg need l b rows) : Pure Try.prog 24 [intsV need, plV l, .int .i64 b, rowsV need.length rows] (.tuple [intsV (usedL rows), .bool true]) := by
  have hl8 := hl.1
  have hrl := hA.len
  have hp8 := pow8 h8
  refine Pure.start (N := 125) Try.func24 rfl rfl (Nat.le_of_ble_eq_true rfl) ?_
  refine AWp.seq ?_
  refine AWp.region ?_
  refine AList.c 8 rfl rfl rfl (OpJ.assign rfl rfl) ?_
  refine AList.c 9 rfl rfl rfl (OpJ.assign rfl rfl) ?_
  refine AList.nil ?_
  refine AWp.seq ?_
  refine AWp.seq ?_
  refine AWp.region ?_
  refine AList.c 16 rfl rfl rfl (OpJ.move rfl rfl) ?_
  refine AList.c 17 rfl rfl rfl (OpJ.lenSlice rfl rfl sl31 rfl) ?_
  refine AList.c 18 rfl rfl rfl (OpJ.move rfl rfl) ?_
  refine AList.c 19 rfl rfl rfl (OpJ.lenSlice rfl rfl sl23 rfl) ?_
  refine AList.c 20 rfl rfl rfl (OpJ.neq rfl rfl rfl) ?_
  refine AList.nil ?_
  refine AWp.cond _ rfl (fun hc0 => ?_) (fun hc0 => ?_)
  · skip
    simp at hc0
    omega
  · skip
    refine AWp.skip ?_
    refine AWp.seq ?_
    refine AWp.region ?_
    refine AList.c 21 rfl rfl rfl (OpJ.move rfl rfl) ?_
    refine AList.c 22 rfl rfl rfl (OpJ.lenSlice rfl rfl sl22 rfl) ?_
    refine AList.c 23 rfl rfl rfl (OpJ.makeSlice (n := need.length) (c := need.length) rfl rfl rfl slz22 by3 (by decide) (Nat.le_refl _) (by omega)) ?_
    rw [repl_i1, soldA_0 rows need.length]
    refine AList.c 10 rfl rfl rfl (OpJ.assign rfl rfl) ?_
    refine AList.nil ?_
    refine AWp.seq ?_
    refine AWp.region ?_
    refine AList.c 11 rfl rfl rfl (OpJ.assign rfl rfl) ?_
    refine AList.nil ?_
    refine AWp.seq ?_
    refine AWp.seq ?_
    refine AWp.region ?_
    refine AList.c 12 rfl rfl rfl (OpJ.assign rfl rfl) ?_
    refine AList.nil ?_
    refine AWp.block ?_
    refine AWp.loopHL [0, 1, 2, 3, 10, 15, 107, 108, 109, 110, 111, 112, 113, 114, 115, 116, 117, 118, 119, 120, 121, 122, 123, 124] (fun g => [(12, .p (.int .i64 ((g : Nat) : Int))), (11, accV 1 g)]) (fun g => [.row (((soldA rows need.length g 0).flatMap i1).map .p) 3, accB (((usedL (rows.take g)).flatMap i1).map .p) 3 g]) (fun g => g ≤ l.length) (fun g => l.length - g) 0 (Nat.zero_le _) (To.pad.trans (To.sub (Sub.chk (Sub.cons rfl (Sub.cons rfl Sub.nil))))) (fun i hg => ?_)
    refine AWp.seq ?_
    refine AWp.seq ?_
    refine AWp.region ?_
    refine AList.c 24 rfl rfl rfl (OpJ.move rfl rfl) ?_
    refine AList.c 25 rfl rfl rfl (OpJ.move rfl rfl) ?_
    refine AList.c 26 rfl rfl rfl (OpJ.lenSlice rfl rfl sl23 rfl) ?_
    refine AList.c 27 rfl rfl rfl (OpJ.lss rfl rfl rfl) ?_
    refine AList.nil ?_
    refine AWp.cond _ rfl (fun hc1 => ?_) (fun hc1 => ?_)
    · skip
      have hi0 : i < l.length := by have h := of_decide_eq_true hc1; omega
      obtain ⟨hi1, hre, hrs, hri⟩ := hA.row hl hi0
      have hpi := hl.2 l[i] (List.getElem_mem _)
      have hel : l[i]?.getD ⟨0, 0⟩ = l[i] := by simp [hi0]
      rw [hel] at hrs
      refine AWp.skip ?_
      refine AWp.seq ?_
      refine AWp.block ?_
      refine AWp.seq ?_
      refine AWp.seq ?_
      refine AWp.region ?_
      refine AList.c 30 rfl rfl rfl (OpJ.move rfl rfl) ?_
      refine AList.c 31 rfl rfl rfl (OpJ.move rfl rfl) ?_
      refine AList.c 32 rfl rfl rfl (OpJ.indexEl rfl rfl rfl sl31 el31 rfl (fun _ => rfl) (by decide) hi1) ?_
      refine AList.c 33 rfl rfl rfl (OpJ.load rfl rfl ty22 rfl) ?_
      refine AList.c 34 rfl rfl rfl (OpJ.lenSlice rfl rfl sl22 rfl) ?_
      refine AList.c 35 rfl rfl rfl (OpJ.move rfl rfl) ?_
      refine AList.c 36 rfl rfl rfl (OpJ.lenSlice rfl rfl sl22 rfl) ?_
      refine AList.c 37 rfl rfl rfl (OpJ.neq rfl rfl rfl) ?_
      refine AList.nil ?_
      refine AWp.cond _ rfl (fun hc2 => ?_) (fun hc2 => ?_)
      · skip
        simp at hc2
      · skip
        refine AWp.skip ?_
        refine AWp.seq ?_
        refine AWp.region ?_
        refine AList.c 13 rfl rfl rfl (OpJ.assign rfl rfl) ?_
        refine AList.nil ?_
        refine AWp.seq ?_
        refine AWp.seq ?_
        refine AWp.region ?_
        refine AList.c 14 rfl rfl rfl (OpJ.assign rfl rfl) ?_
        refine AList.nil ?_
        refine AWp.block ?_
        refine AWp.loopHL [0, 1, 2, 3, 10, 11, 12, 15, 24, 25, 26, 27, 28, 29, 30, 31, 32, 33, 34, 35, 36, 37, 96, 97, 98, 99, 100, 101, 102, 103, 104, 105, 106, 107, 108, 109, 110, 111, 112, 113, 114, 115, 116, 117, 118, 119, 120, 121, 122, 123, 124] (fun g => [(14, .p (.int .i64 ((g : Nat) : Int))), (13, .p (.int .i64 (rows[i].take g).sum))]) (fun g => [.row (((soldA rows need.length i g).flatMap i1).map .p) 3, accB (((usedL (rows.take i)).flatMap i1).map .p) 3 i]) (fun g => g ≤ need.length) (fun g => need.length - g) 0 (Nat.zero_le _) (To.sub (Sub.chk (Sub.cons rfl (Sub.cons rfl (Sub.nil))))) (fun k hh => ?_)
        refine AWp.seq ?_
        refine AWp.seq ?_
        refine AWp.region ?_
        refine AList.c 38 rfl rfl rfl (OpJ.move rfl rfl) ?_
        refine AList.c 39 rfl rfl rfl (OpJ.move rfl rfl) ?_
        refine AList.c 40 rfl rfl rfl (OpJ.lenSlice rfl rfl sl22 rfl) ?_
        refine AList.c 41 rfl rfl rfl (OpJ.lss rfl rfl rfl) ?_
        refine AList.nil ?_
        refine AWp.cond _ rfl (fun hc3 => ?_) (fun hc3 => ?_)
        · skip
          have hk1 : k < need.length := by have h := of_decide_eq_true hc3; omega
          have hks : k < rows[i].length := by omega
          have hka : k < (soldA rows need.length i k).length := by rw [soldA_len]; exact hk1
          have hx := hre rows[i][k] (List.getElem_mem _)
          have hps := psum (fun x hx => (hre x hx).1) k
          have hts := take_sum hks
          have hcs := colS_succ hi1 hks
          have hcb := hA.colB hl k i (by omega)
          have hpos := (hA.pos i k hi0 hk1).2
          have hek : (rows[i]?.getD [])[k]?.getD 0 = rows[i][k] := by simp [hi1, hks]
          rw [hek, hel] at hpos
          refine AWp.skip ?_
          refine AWp.seq ?_
          refine AWp.block ?_
          refine AWp.seq ?_
          refine AWp.seq ?_
          refine AWp.region ?_
          refine AList.c 44 rfl rfl rfl (OpJ.move rfl rfl) ?_
          refine AList.c 45 rfl rfl rfl (OpJ.move rfl rfl) ?_
          refine AList.c 46 rfl rfl rfl (OpJ.indexEl rfl rfl rfl sl31 el31 rfl (fun _ => rfl) (by decide) hi1) ?_
          refine AList.c 47 rfl rfl rfl (OpJ.load rfl rfl ty22 rfl) ?_
          refine AList.c 48 rfl rfl rfl (OpJ.move rfl rfl) ?_
          refine AList.c 49 rfl rfl rfl (OpJ.indexEl rfl rfl rfl sl22 el22 hri.symm (fun _ => rfl) (by decide) hks) ?_
          refine AList.c 50 rfl rfl rfl (OpJ.load rfl rfl ty3 rfl) ?_
          refine AList.c 51 rfl rfl rfl (OpJ.lss rfl rfl rfl) ?_
          refine AList.c 52 rfl rfl rfl (OpJ.move rfl rfl) ?_
          refine AList.g 53 52 rfl rfl rfl rfl rfl rfl rfl [(3, _)] (fun h => And.intro (.inl rfl) (trivial)) (fun h => (OpJ.move rfl rfl)) ?_
          refine AList.g 54 52 rfl rfl rfl rfl rfl rfl rfl [(12, _)] (fun h => And.intro (.inl rfl) (trivial)) (fun h => (OpJ.move rfl rfl)) ?_
          refine AList.g 55 52 rfl rfl rfl rfl rfl rfl rfl [(53, _), (54, _)] (fun h => And.intro (.inr ⟨_, rfl, h⟩) (And.intro (.inr ⟨_, rfl, h⟩) (trivial))) (fun h => (OpJ.indexEl rfl rfl rfl sl31 el31 rfl (fun _ => rfl) (by decide) hi1)) ?_
          refine AList.g 56 52 rfl rfl rfl rfl rfl rfl rfl [(55, _)] (fun h => And.intro (.inr ⟨_, rfl, h⟩) (trivial)) (fun h => (OpJ.load rfl rfl ty22 rfl)) ?_
          refine AList.g 57 52 rfl rfl rfl rfl rfl rfl rfl [(14, _)] (fun h => And.intro (.inl rfl) (trivial)) (fun h => (OpJ.move rfl rfl)) ?_
          refine AList.g 58 52 rfl rfl rfl rfl rfl rfl rfl [(56, _), (57, _)] (fun h => And.intro (.inr ⟨_, rfl, h⟩) (And.intro (.inr ⟨_, rfl, h⟩) (trivial))) (fun h => (OpJ.indexEl rfl rfl rfl sl22 el22 hri.symm (fun _ => rfl) (by decide) hks)) ?_
          refine AList.g 59 52 rfl rfl rfl rfl rfl rfl rfl [(58, _)] (fun h => And.intro (.inr ⟨_, rfl, h⟩) (trivial)) (fun h => (OpJ.load rfl rfl ty3 rfl)) ?_
          refine AList.g 60 52 rfl rfl rfl rfl rfl rfl rfl [(59, _)] (fun h => And.intro (.inr ⟨_, rfl, h⟩) (trivial)) (fun h => (OpJ.gtr rfl rfl rfl)) ?_
          refine AList.g 61 52 rfl rfl rfl rfl rfl rfl rfl [(60, _)] (fun h => And.intro (.inr ⟨_, rfl, h⟩) (trivial)) (fun h => (OpJ.move rfl rfl)) ?_
          refine AList.g 62 61 rfl rfl rfl rfl rfl rfl rfl [(1, _)] (fun h => And.intro (.inl rfl) (trivial)) (fun h => (OpJ.move rfl rfl)) ?_
          refine AList.g 63 61 rfl rfl rfl rfl rfl rfl rfl [(12, _)] (fun h => And.intro (.inl rfl) (trivial)) (fun h => (OpJ.move rfl rfl)) ?_
          refine AList.g 64 61 rfl rfl rfl rfl rfl rfl rfl [(62, _), (63, _)] (fun h => And.intro (.inr ⟨_, rfl, h⟩) (And.intro (.inr ⟨_, rfl, h⟩) (trivial))) (fun h => (OpJ.indexEl rfl rfl rfl sl23 el23 rfl (fun _ => rfl) (by decide) hi0)) ?_
          refine AList.g 65 61 rfl rfl rfl rfl rfl rfl rfl [(64, _)] (fun h => And.intro (.inr ⟨_, rfl, h⟩) (trivial)) (fun h => (OpJ.fieldAddr rfl rfl fd46_0 rfl)) ?_
          refine AList.g 66 61 rfl rfl rfl rfl rfl rfl rfl [(65, _)] (fun h => And.intro (.inr ⟨_, rfl, h⟩) (trivial)) (fun h => (OpJ.load rfl rfl ty3 rfl)) ?_
          refine AList.g 67 61 rfl rfl rfl rfl rfl rfl rfl [(14, _)] (fun h => And.intro (.inl rfl) (trivial)) (fun h => (OpJ.move rfl rfl)) ?_
          refine AList.g 68 61 rfl rfl rfl rfl rfl rfl rfl [(66, _), (67, _)] (fun h => And.intro (.inr ⟨_, rfl, h⟩) (And.intro (.inr ⟨_, rfl, h⟩) (trivial))) (fun h => (OpJ.callP (has_ok l[i].s k (by omega) (by omega)) rfl rfl rfl rfl rf25)) ?_
          refine AList.g 69 61 rfl rfl rfl rfl rfl rfl rfl [(68, _)] (fun h => And.intro (.inr ⟨_, rfl, h⟩) (trivial)) (fun h => (OpJ.not_ rfl rfl)) ?_
          refine AList.g 70 52 rfl rfl rfl rfl rfl rfl rfl [(61, _), (69, _)] (fun h => And.intro (.inr ⟨_, rfl, h⟩) (And.intro (.inl rfl) (trivial))) (fun h => (OpJ.and_ rfl rfl rfl (fun e => by simp_all))) ?_
          refine AList.c 71 rfl rfl rfl (OpJ.or_ rfl rfl rfl ?_) ?_
          · first | (intro h; rw [h]; rfl) | (intro h; simp_all)
          refine AList.nil ?_
          refine AWp.cond _ rfl (fun hc4 => ?_) (fun hc4 => ?_)
          · skip
            simp only [Bool.or_eq_true, Bool.and_eq_true, Bool.not_eq_true', decide_eq_true_eq] at hc4
            rcases hc4 with h | ⟨h1, h2⟩
            · exact absurd h (by omega)
            · rw [hpos h1] at h2; cases h2
          · skip
            refine AWp.skip ?_
            refine AWp.seq ?_
            refine AWp.region ?_
            refine AList.c 72 rfl rfl rfl (OpJ.move rfl rfl) ?_
            refine AList.c 73 rfl rfl rfl (OpJ.move rfl rfl) ?_
            refine AList.c 74 rfl rfl rfl (OpJ.move rfl rfl) ?_
            refine AList.c 75 rfl rfl rfl (OpJ.indexEl rfl rfl rfl sl31 el31 rfl (fun _ => rfl) (by decide) hi1) ?_
            refine AList.c 76 rfl rfl rfl (OpJ.load rfl rfl ty22 rfl) ?_
            refine AList.c 77 rfl rfl rfl (OpJ.move rfl rfl) ?_
            refine AList.c 78 rfl rfl rfl (OpJ.indexEl rfl rfl rfl sl22 el22 hri.symm (fun _ => rfl) (by decide) hks) ?_
            refine AList.c 79 rfl rfl rfl (OpJ.load rfl rfl ty3 rfl) ?_
            refine AList.c 80 rfl rfl rfl (OpJ.add (m := (rows[i].take (k + 1)).sum) rfl rfl rfl ((i64ok ?_).trans ?_)) ?_
            · omega
            · exact hts.symm
            refine AList.c 13 rfl rfl rfl (OpJ.assign rfl rfl) ?_
            refine AList.nil ?_
            refine AWp.regionDraw 15 mixed (by kernel_rfl) (by decide) ?_
            refine AQuiet.cons 81 rfl rfl rfl (OpJ.move rfl rfl) ?_
            refine AQuiet.cons 82 rfl rfl rfl (OpJ.move rfl rfl) ?_
            refine AQuiet.cons 83 rfl rfl rfl (OpJ.move rfl rfl) ?_
            refine AQuiet.cons 84 rfl rfl rfl (OpJ.move rfl rfl) ?_
            refine AQuiet.cons 85 rfl rfl rfl (OpJ.indexRow rfl rfl rfl sl22 el22 hk1) ?_
            refine AQuiet.cons 86 rfl rfl rfl (OpJ.loadFlat (f := i1) (c := 1) (k := k) (j := 0) (xs := (soldA rows need.length i k)) rfl rfl ty3 rfl rfl (by omega) (fun _ => rfl) hka (by decide) (show _ = PV.int .i64 (colS rows k i) from by rw [soldA_get hk1, if_neg (Nat.lt_irrefl k)]; rfl)) ?_
            refine AQuiet.cons 87 rfl rfl rfl (OpJ.move rfl rfl) ?_
            refine AQuiet.cons 88 rfl rfl rfl (OpJ.move rfl rfl) ?_
            refine AQuiet.cons 89 rfl rfl rfl (OpJ.indexEl rfl rfl rfl sl31 el31 rfl (fun _ => rfl) (by decide) hi1) ?_
            refine AQuiet.cons 90 rfl rfl rfl (OpJ.load rfl rfl ty22 rfl) ?_
            refine AQuiet.cons 91 rfl rfl rfl (OpJ.move rfl rfl) ?_
            refine AQuiet.cons 92 rfl rfl rfl (OpJ.indexEl rfl rfl rfl sl22 el22 hri.symm (fun _ => rfl) (by decide) hks) ?_
            refine AQuiet.cons 93 rfl rfl rfl (OpJ.load rfl rfl ty3 rfl) ?_
            refine AQuiet.cons 94 rfl rfl rfl (OpJ.add (m := colS rows k (i + 1)) rfl rfl rfl ((i64ok ?_).trans ?_)) ?_
            · omega
            · exact hcs.symm
            refine AQuiet.cons 95 rfl rfl rfl (OpJ.indexRow rfl rfl rfl sl22 el22 hk1) ?_
            refine AQuiet.nil ?_
            refine AList.c0 rfl rfl (OpJ.storeRow (f := i1) (c := 1) (k := k) (j := 0) (xs := (soldA rows need.length i k)) (z := (colS rows k (i + 1))) (ws := [_]) rfl rfl rfl rfl rfl ty3 rfl rfl rfl (by omega) (fun _ => rfl) hka (Nat.le_of_ble_eq_true rfl) rfl) ?_
            refine AList.nil ?_
            refine AWp.region ?_
            refine AList.c 42 rfl rfl rfl (OpJ.move rfl rfl) ?_
            refine AList.c 43 rfl rfl rfl (OpJ.add rfl rfl rfl (i64ok ?_)) ?_
            · omega
            refine AList.c 14 rfl rfl rfl (OpJ.assign rfl rfl) ?_
            refine AList.nil ?_
            refine ⟨k + 1, ?_, ?_, ?_⟩
            · omega
            · omega
            rw [soldA_set hk1]
            exact To.sub (by repeat (first | exact Sub.nil | refine Sub.cons rfl ?_))
        · skip
          obtain rfl : k = need.length := by have h := of_decide_eq_false hc3; omega
          rw [← hri, List.take_length, hri, soldA_next]
          refine AWp.exit ?_
          refine AWp.seq ?_
          refine AWp.seq ?_
          refine AWp.region ?_
          refine AList.c 96 rfl rfl rfl (OpJ.move rfl rfl) ?_
          refine AList.c 97 rfl rfl rfl (OpJ.move rfl rfl) ?_
          refine AList.c 98 rfl rfl rfl (OpJ.move rfl rfl) ?_
          refine AList.c 99 rfl rfl rfl (OpJ.indexEl rfl rfl rfl sl23 el23 rfl (fun _ => rfl) (by decide) hi0) ?_
          refine AList.c 100 rfl rfl rfl (OpJ.fieldAddr rfl rfl fd46_1 rfl) ?_
          refine AList.c 101 rfl rfl rfl (OpJ.load rfl rfl ty3 rfl) ?_
          refine AList.c 102 rfl rfl rfl (OpJ.gtr rfl rfl rfl) ?_
          refine AList.nil ?_
          refine AWp.cond _ rfl (fun hc5 => ?_) (fun hc5 => ?_)
          · skip
            have h := of_decide_eq_true hc5
            exact absurd h (by omega)
          · skip
            refine AWp.skip ?_
            refine AWp.region ?_
            refine AList.c 103 rfl rfl rfl (OpJ.move rfl rfl) ?_
            refine AList.c 104 rfl rfl rfl (OpJ.move rfl rfl) ?_
            refine AList.c 105 rfl rfl rfl (OpJ.buildImm rfl slz22 (by decide) rfl rfl rfl) ?_
            refine AList.c 106 rfl rfl rfl (OpJ.appendAcc rfl rfl rfl slz22 sl22 rfl ?_ rfl (by decide) rfl by3 (by decide) ?_) ?_
            · rw [List.length_map, flat_len (c := 1) (fun _ => rfl)]; unfold usedL; rw [List.length_map, List.length_take, Nat.min_eq_left (by omega)]; rfl
            · omega
            refine AList.c 11 rfl rfl rfl (OpJ.assign rfl rfl) ?_
            refine AList.nil ?_
            refine AWp.region ?_
            refine AList.c 28 rfl rfl rfl (OpJ.move rfl rfl) ?_
            refine AList.c 29 rfl rfl rfl (OpJ.add rfl rfl rfl (i64ok ?_)) ?_
            · omega
            refine AList.c 12 rfl rfl rfl (OpJ.assign rfl rfl) ?_
            refine AList.nil ?_
            refine ⟨i + 1, ?_, ?_, ?_⟩
            · omega
            · omega
            refine To.done [0, 2] rfl (by repeat (first | exact Sub.nil | refine Sub.cons rfl ?_)) ?_
            show [Blk.row (renL _ _) _, Blk.row (renL _ (_ ++ _)) _] = _
            rw [renL_app, renL_pure, renL_pure, usedL_take hi1, List.flatMap_append, List.map_append]
            rfl
    · skip
      obtain rfl : i = l.length := by have h := of_decide_eq_false hc1; omega
      refine AWp.to (To.accD 11 1 l.length rfl rfl (fun h => by rw [h]; rfl)) ?_
      refine AWp.exit ?_
      refine AWp.seq ?_
      refine AWp.seq ?_
      refine AWp.region ?_
      refine AList.c 15 rfl rfl rfl (OpJ.assign rfl rfl) ?_
      refine AList.nil ?_
      refine AWp.block ?_
      refine AWp.loopKL [0, 2, 10, 11, 124] (fun g => [(15, .p (.int .i64 ((g : Nat) : Int)))]) (fun g => g ≤ need.length) (fun g => need.length - g) 0 (Nat.zero_le _) (Sub.cons rfl (Sub.nil)) (fun j hj => ?_)
      refine AWp.seq ?_
      refine AWp.seq ?_
      refine AWp.region ?_
      refine AList.c 107 rfl rfl rfl (OpJ.move rfl rfl) ?_
      refine AList.c 108 rfl rfl rfl (OpJ.move rfl rfl) ?_
      refine AList.c 109 rfl rfl rfl (OpJ.lenSlice rfl rfl sl22 rfl) ?_
      refine AList.c 110 rfl rfl rfl (OpJ.lss rfl rfl rfl) ?_
      refine AList.nil ?_
      refine AWp.cond _ rfl (fun hc6 => ?_) (fun hc6 => ?_)
      · skip
        have hj0 : j < need.length := by have h := of_decide_eq_true hc6; omega
        have hja : j < (soldA rows need.length l.length 0).length := by rw [soldA_len]; exact hj0
        have hnj := hn need[j] (List.getElem_mem _)
        have hmb := mul_B hnj.1 hnj.2 b0 (by omega)
        have hcol := hA.col j hj0
        have hej : need[j]?.getD 0 = need[j] := by simp [hj0]
        rw [hej] at hcol
        refine AWp.skip ?_
        refine AWp.seq ?_
        refine AWp.block ?_
        refine AWp.seq ?_
        refine AWp.regionDraw 11 mixed (by kernel_rfl) (by decide) ?_
        refine AQuiet.cons 113 rfl rfl rfl (OpJ.move rfl rfl) ?_
        refine AQuiet.cons 114 rfl rfl rfl (OpJ.move rfl rfl) ?_
        refine AQuiet.cons 115 rfl rfl rfl (OpJ.indexRow rfl rfl rfl sl22 el22 hj0) ?_
        refine AQuiet.cons 116 rfl rfl rfl (OpJ.loadFlat (f := i1) (c := 1) (k := j) (j := 0) (xs := (soldA rows need.length l.length 0)) rfl rfl ty3 rfl rfl (by omega) (fun _ => rfl) hja (by decide) (show _ = PV.int .i64 (colS rows j l.length) from by rw [soldA_get hj0, if_neg (Nat.not_lt_zero j)]; rfl)) ?_
        refine AQuiet.cons 117 rfl rfl rfl (OpJ.move rfl rfl) ?_
        refine AQuiet.cons 118 rfl rfl rfl (OpJ.move rfl rfl) ?_
        refine AQuiet.cons 119 rfl rfl rfl (OpJ.move rfl rfl) ?_
        refine AQuiet.cons 120 rfl rfl rfl (OpJ.indexEl rfl rfl rfl sl22 el22 rfl (fun _ => rfl) (by decide) hj0) ?_
        refine AQuiet.cons 121 rfl rfl rfl (OpJ.load rfl rfl ty3 rfl) ?_
        refine AQuiet.cons 122 rfl rfl rfl (OpJ.mul rfl rfl rfl (i64ok ?_)) ?_
        · omega
        refine AQuiet.cons 123 rfl rfl rfl (OpJ.neq rfl rfl rfl) ?_
        refine AQuiet.nil ?_
        refine AList.nil ?_
        refine AWp.cond _ rfl (fun hc7 => ?_) (fun hc7 => ?_)
        · skip
          simp only [Bool.not_eq_true', decide_eq_false_iff_not] at hc7
          exact absurd hcol hc7
        · skip
          refine AWp.skip ?_
          refine AWp.region ?_
          refine AList.c 111 rfl rfl rfl (OpJ.move rfl rfl) ?_
          refine AList.c 112 rfl rfl rfl (OpJ.add rfl rfl rfl (i64ok ?_)) ?_
          · omega
          refine AList.c 15 rfl rfl rfl (OpJ.assign rfl rfl) ?_
          refine AList.nil ?_
          refine ⟨j + 1, ?_, ?_, ?_⟩
          · omega
          · omega
          exact To.sub (by repeat (first | exact Sub.nil | refine Sub.cons rfl ?_))
      · skip
        obtain rfl : j = need.length := by have h := of_decide_eq_false hc6; omega
        refine AWp.exit ?_
        refine AWp.seq ?_
        refine AWp.region ?_
        refine AList.c 124 rfl rfl rfl (OpJ.move rfl rfl) ?_
        refine AList.c 8 rfl rfl rfl (OpJ.assign rfl rfl) ?_
        refine AList.c 9 rfl rfl rfl (OpJ.assign rfl rfl) ?_
        refine AList.nil ?_
        refine AWp.ret ?_
        refine Fin.manyE (xs := [.is ((usedL (rows.take l.length)).flatMap i1) l.length, .bool true]) rfl (⟨_, _, rfl, rfl, ⟨_, _, rfl, rfl, rfl⟩⟩) rfl ?_
        have e : rows.take l.length = rows := List.take_of_length_le (by omega)
        rw [e]
        unfold intsV usedL
        rw [List.length_map, hrl]
theorem of_raw {need : List Int} {l : List Pr} (hV : Vld need l) (s : Nat) (hs : s < 256) : Pure Try.prog 22 [rawV l, .int .i64 (s : Int)] (.int .i64 (ofP (toPl l) s)) := by
  rw [toPl_raw hV]; exact of_ok need.length (toPl l) s hV.1.2 (toPl_ok hV) hs
theorem needs_raw {need : List Int} {l : List Pr} (hV : Vld need l) (s : Nat) (hs : s ≤ 256) : Pure Try.prog 23 [intsV need, .int .i64 (s : Int)] (.int .i64 (sumS need s)) := needs_ok need s (okN_okV hV.2.2.1 hV.1.2) hs
theorem good_raw {need : List Int} {l : List Pr} (hV : Vld need l) (b : Int) (b0 : 0 ≤ b) (b1 : b ≤ 1048576) (rows : List (List Int)) (hA : Asg need (toPl l) b rows) : Pure Try.prog 24 [intsV need, rawV l, .int .i64 b, rowsV need.length rows] (.tuple [intsV (usedL rows), .bool true]) := by
  rw [toPl_raw hV]; exact good_ok need (toPl l) b rows hV.1.1 hV.2.2.1 hV.1.2 (toPl_ok hV) b0 b1 hA
theorem BoxFilled_ok (need : List Int) (l : List Pr) : Pure Try.prog 5 [intsV need, rawV l] (.bool true) := by
  refine Pure.start (N := 159) Try.func5 rfl rfl (Nat.le_of_ble_eq_true rfl) ?_
  refine AWp.seq ?_
  refine AWp.region ?_
  refine AList.c 4 rfl rfl rfl (OpJ.assign rfl rfl) ?_
  refine AList.nil ?_
  refine AWp.seq ?_
  refine AWp.seq ?_
  refine AWp.region ?_
  refine AList.c 20 rfl rfl rfl (OpJ.move rfl rfl) ?_
  refine AList.c 21 rfl rfl rfl (OpJ.move rfl rfl) ?_
  refine AList.c 22 rfl rfl rfl (OpJ.callP (large_ok need l) rfl rfl rfl rfl rf10) ?_
  refine AList.nil ?_
  refine AWp.cond _ rfl (fun hc0 => ?_) (fun hc0 => ?_)
  · skip
    refine AWp.seq ?_
    refine AWp.region ?_
    refine AList.c 23 rfl rfl rfl (OpJ.callP (awake_ok) rfl rfl rfl rfl rf11) ?_
    refine AList.c 4 rfl rfl rfl (OpJ.assign rfl rfl) ?_
    refine AList.nil ?_
    refine AWp.ret ?_
    refine Fin.oneE rfl rfl ?_
    rfl
  · skip
    have hnl : need.length ≤ bigN := by unfold bigN; simp at hc0; omega
    have hll : l.length ≤ bigN := by unfold bigN; simp at hc0; omega
    refine AWp.skip ?_
    refine AWp.seq ?_
    refine AWp.region ?_
    refine AList.c 25 rfl rfl rfl (OpJ.move rfl rfl) ?_
    refine AList.c 26 rfl rfl rfl (OpJ.move rfl rfl) ?_
    refine AList.c 27 rfl rfl rfl (OpJ.callP (most_n need l hnl hll) rfl rfl rfl rfl rf12) ?_
    refine AList.c 24 rfl rfl rfl (OpJ.move rfl rfl) ?_
    refine AList.c 28 rfl rfl rfl (OpJ.extract rfl rfl rfl) ?_
    refine AList.c 29 rfl rfl rfl (OpJ.extract rfl rfl rfl) ?_
    refine AList.c 30 rfl rfl rfl (OpJ.extract rfl rfl rfl) ?_
    refine AList.c 5 rfl rfl rfl (OpJ.assign rfl rfl) ?_
    refine AList.c 6 rfl rfl rfl (OpJ.assign rfl rfl) ?_
    refine AList.c 7 rfl rfl rfl (OpJ.assign rfl rfl) ?_
    refine AList.nil ?_
    refine AWp.seq ?_
    refine AWp.seq ?_
    refine AWp.region ?_
    refine AList.c 31 rfl rfl rfl (OpJ.move rfl rfl) ?_
    refine AList.c 32 rfl rfl rfl (OpJ.neq rfl rfl rfl) ?_
    refine AList.nil ?_
    refine AWp.cond _ rfl (fun hc1 => ?_) (fun hc1 => ?_)
    · skip
      have hV : ¬ Vld need l := fun h => by
        obtain ⟨q, pf, _, _, e, _⟩ := most_yes h
        rw [e] at hc1; simp at hc1
      refine AWp.seq ?_
      refine AWp.region ?_
      refine AList.c 33 rfl rfl rfl (OpJ.move rfl rfl) ?_
      refine AList.c 34 rfl rfl rfl (OpJ.eql rfl rfl rfl) ?_
      refine AList.c 35 rfl rfl rfl (OpJ.move rfl rfl) ?_
      refine AList.g 36 35 rfl rfl rfl rfl rfl rfl rfl [(6, _)] (fun h => And.intro (.inl rfl) (trivial)) (fun h => (OpJ.move rfl rfl)) ?_
      refine AList.g 37 35 rfl rfl rfl rfl rfl rfl rfl [(36, _)] (fun h => And.intro (.inr ⟨_, rfl, h⟩) (trivial)) (fun h => (OpJ.eql rfl rfl rfl)) ?_
      refine AList.c 38 rfl rfl rfl (OpJ.and_ rfl rfl rfl ?_) ?_
      · first | (intro h; rw [h]; rfl) | (intro h; simp_all)
      refine AList.c 39 rfl rfl rfl (OpJ.move rfl rfl) ?_
      refine AList.g 40 39 rfl rfl rfl rfl rfl rfl rfl [(7, _)] (fun h => And.intro (.inl rfl) (trivial)) (fun h => (OpJ.move rfl rfl)) ?_
      refine AList.g 41 39 rfl rfl rfl rfl rfl rfl rfl [(40, _)] (fun h => And.intro (.inr ⟨_, rfl, h⟩) (trivial)) (fun h => (OpJ.eql rfl rfl rfl)) ?_
      refine AList.c 42 rfl rfl rfl (OpJ.and_ rfl rfl rfl ?_) ?_
      · first | (intro h; rw [h]; rfl) | (intro h; simp_all)
      refine AList.c 43 rfl rfl rfl (OpJ.move rfl rfl) ?_
      refine AList.g 44 43 rfl rfl rfl rfl rfl rfl rfl [(0, _)] (fun h => And.intro (.inl rfl) (trivial)) (fun h => (OpJ.move rfl rfl)) ?_
      refine AList.g 45 43 rfl rfl rfl rfl rfl rfl rfl [(1, _)] (fun h => And.intro (.inl rfl) (trivial)) (fun h => (OpJ.move rfl rfl)) ?_
      refine AList.g 46 43 rfl rfl rfl rfl rfl rfl rfl [(44, _), (45, _)] (fun h => And.intro (.inr ⟨_, rfl, h⟩) (And.intro (.inr ⟨_, rfl, h⟩) (trivial))) (fun h => (OpJ.callP (rvalid_ok need l hnl hll) rfl rfl rfl rfl rf21)) ?_
      refine AList.g 47 43 rfl rfl rfl rfl rfl rfl rfl [(46, _)] (fun h => And.intro (.inr ⟨_, rfl, h⟩) (trivial)) (fun h => (OpJ.not_ rfl rfl)) ?_
      refine AList.c 48 rfl rfl rfl (OpJ.and_ rfl rfl rfl ?_) ?_
      · first | (intro h; rw [h]; rfl) | (intro h; simp_all)
      refine AList.c 49 rfl rfl rfl (OpJ.move rfl rfl) ?_
      refine AList.g 50 49 rfl rfl rfl rfl rfl rfl rfl [] (fun h => trivial) (fun h => (OpJ.callP (awake_ok) rfl rfl rfl rfl rf11)) ?_
      refine AList.c 51 rfl rfl rfl (OpJ.and_ rfl rfl rfl ?_) ?_
      · first | (intro h; rw [h]; rfl) | (intro h; simp_all)
      refine AList.c 4 rfl rfl rfl (OpJ.assign rfl rfl) ?_
      refine AList.nil ?_
      refine AWp.ret ?_
      refine Fin.oneE rfl rfl ?_
      obtain ⟨a, b, c⟩ := most_no hV
      rw [a, b, c, decide_eq_false hV]
      rfl
    · skip
      have hV : Vld need l := Classical.byContradiction fun h => by
        rw [(most_no h).2.2] at hc1; simp at hc1
      have hn : okN need := hV.2.2.1
      have h8 := hV.1.2
      have h0 := hV.1.1
      have hL := toPl_ok hV
      have hp := pow8 h8
      have hp1 := pow_pos' need.length
      have hA : allS need.length = 2 ^ need.length - 1 := rfl
      have hl8 := hL.1
      obtain ⟨q, pf, hmN, hmP, hmE, hq8, hpf1, hpf2, hpf, hcq, hcq1⟩ := most_yes hV
      have hs := sumS_N hn h8 pf
      have ho := ofP_BB hL pf
      have hmb := mul_BB (a := (q : Int) + 1) (A := 8388609) (by omega) (by omega) hs.1 hs.2
      rw [hmN, hmP]
      refine AWp.skip ?_
      refine AWp.seq ?_
      refine AWp.seq ?_
      refine AWp.region ?_
      refine AList.c 52 rfl rfl rfl (OpJ.move rfl rfl) ?_
      refine AList.c 53 rfl rfl rfl (OpJ.move rfl rfl) ?_
      refine AList.c 54 rfl rfl rfl (OpJ.callP (rvalid_ok need l hnl hll) rfl rfl rfl rfl rf21) ?_
      refine AList.c 55 rfl rfl rfl (OpJ.not_ rfl rfl) ?_
      refine AList.c 56 rfl rfl rfl (OpJ.move rfl rfl) ?_
      refine AList.g 57 56 rfl rfl rfl rfl rfl rfl rfl [(5, _)] (fun h => And.intro (.inl rfl) (trivial)) (fun h => (OpJ.move rfl rfl)) ?_
      refine AList.g 58 56 rfl rfl rfl rfl rfl rfl rfl [(57, _)] (fun h => And.intro (.inr ⟨_, rfl, h⟩) (trivial)) (fun h => (OpJ.lss rfl rfl rfl)) ?_
      refine AList.c 59 rfl rfl rfl (OpJ.or_ rfl rfl rfl ?_) ?_
      · first | (intro h; rw [h]; rfl) | (intro h; simp_all)
      refine AList.c 60 rfl rfl rfl (OpJ.move rfl rfl) ?_
      refine AList.g 61 60 rfl rfl rfl rfl rfl rfl rfl [(5, _)] (fun h => And.intro (.inl rfl) (trivial)) (fun h => (OpJ.move rfl rfl)) ?_
      refine AList.g 62 60 rfl rfl rfl rfl rfl rfl rfl [(61, _)] (fun h => And.intro (.inr ⟨_, rfl, h⟩) (trivial)) (fun h => (OpJ.gtr rfl rfl rfl)) ?_
      refine AList.c 63 rfl rfl rfl (OpJ.or_ rfl rfl rfl ?_) ?_
      · first | (intro h; rw [h]; rfl) | (intro h; simp_all)
      refine AList.c 64 rfl rfl rfl (OpJ.move rfl rfl) ?_
      refine AList.g 65 64 rfl rfl rfl rfl rfl rfl rfl [(6, _)] (fun h => And.intro (.inl rfl) (trivial)) (fun h => (OpJ.move rfl rfl)) ?_
      refine AList.g 66 64 rfl rfl rfl rfl rfl rfl rfl [(65, _)] (fun h => And.intro (.inr ⟨_, rfl, h⟩) (trivial)) (fun h => (OpJ.lss rfl rfl rfl)) ?_
      refine AList.c 67 rfl rfl rfl (OpJ.or_ rfl rfl rfl ?_) ?_
      · first | (intro h; rw [h]; rfl) | (intro h; simp_all)
      refine AList.c 68 rfl rfl rfl (OpJ.move rfl rfl) ?_
      refine AList.g 69 68 rfl rfl rfl rfl rfl rfl rfl [(6, _)] (fun h => And.intro (.inl rfl) (trivial)) (fun h => (OpJ.move rfl rfl)) ?_
      refine AList.g 70 68 rfl rfl rfl rfl rfl rfl rfl [(0, _)] (fun h => And.intro (.inl rfl) (trivial)) (fun h => (OpJ.move rfl rfl)) ?_
      refine AList.g 71 68 rfl rfl rfl rfl rfl rfl rfl [(70, _)] (fun h => And.intro (.inr ⟨_, rfl, h⟩) (trivial)) (fun h => (OpJ.lenSlice rfl rfl sl22 rfl)) ?_
      refine AList.g 72 68 rfl rfl rfl rfl rfl rfl rfl [(71, _)] (fun h => And.intro (.inr ⟨_, rfl, h⟩) (trivial)) (fun h => (OpJ.shlN 1 need.length rfl rfl rfl (by show _ ≤ (64 : Nat); omega) (show ((1 * 2 ^ need.length : Nat) : Int) ≤ 9223372036854775807 by omega))) ?_
      refine AList.g 73 68 rfl rfl rfl rfl rfl rfl rfl [(69, _), (72, _)] (fun h => And.intro (.inr ⟨_, rfl, h⟩) (And.intro (.inr ⟨_, rfl, h⟩) (trivial))) (fun h => (OpJ.geq rfl rfl rfl)) ?_
      refine AList.c 74 rfl rfl rfl (OpJ.or_ rfl rfl rfl ?_) ?_
      · first | (intro h; rw [h]; rfl) | (intro h; simp_all)
      refine AList.nil ?_
      refine AWp.cond _ rfl (fun hc2 => ?_) (fun hc2 => ?_)
      · skip
        simp only [Bool.or_eq_true, Bool.not_eq_true', decide_eq_true_eq, decide_eq_false_iff_not] at hc2
        rcases hc2 with (((h | h) | h) | h) | h
        · exact absurd hV h
        all_goals exact absurd h (by omega)
      · skip
        refine AWp.skip ?_
        refine AWp.seq ?_
        refine AWp.seq ?_
        refine AWp.region ?_
        refine AList.c 75 rfl rfl rfl (OpJ.move rfl rfl) ?_
        refine AList.c 76 rfl rfl rfl (OpJ.move rfl rfl) ?_
        refine AList.c 77 rfl rfl rfl (OpJ.callP (of_raw hV pf (by omega)) rfl rfl rfl rfl rf22) ?_
        refine AList.c 78 rfl rfl rfl (OpJ.move rfl rfl) ?_
        refine AList.c 79 rfl rfl rfl (OpJ.add rfl rfl rfl (i64ok ?_)) ?_
        · omega
        refine AList.c 80 rfl rfl rfl (OpJ.move rfl rfl) ?_
        refine AList.c 81 rfl rfl rfl (OpJ.move rfl rfl) ?_
        refine AList.c 82 rfl rfl rfl (OpJ.callP (needs_raw hV pf (by omega)) rfl rfl rfl rfl rf23) ?_
        refine AList.c 83 rfl rfl rfl (OpJ.mul rfl rfl rfl (i64ok ?_)) ?_
        · omega
        refine AList.c 84 rfl rfl rfl (OpJ.geq rfl rfl rfl) ?_
        refine AList.nil ?_
        refine AWp.cond _ rfl (fun hc3 => ?_) (fun hc3 => ?_)
        · skip
          have h := of_decide_eq_true hc3
          exact absurd h (by omega)
        · skip
          refine AWp.skip ?_
          refine AWp.seq ?_
          refine AWp.seq ?_
          refine AWp.region ?_
          refine AList.c 85 rfl rfl rfl (OpJ.move rfl rfl) ?_
          refine AList.c 86 rfl rfl rfl (OpJ.gtr rfl rfl rfl) ?_
          refine AList.nil ?_
          refine AWp.cond _ rfl (fun hc4 => ?_) (fun hc4 => ?_)
          · skip
            refine AWp.seq ?_
            refine AWp.region ?_
            refine AList.c 87 rfl rfl rfl (OpJ.callP (awake_ok) rfl rfl rfl rfl rf11) ?_
            refine AList.c 4 rfl rfl rfl (OpJ.assign rfl rfl) ?_
            refine AList.nil ?_
            refine AWp.ret ?_
            refine Fin.oneE rfl rfl ?_
            rfl
          · skip
            have hqm : (q : Int) ≤ 1048576 := by have h := of_decide_eq_false hc4; omega
            obtain ⟨hfE, hAs, _⟩ := fill_yes hV (show (0 : Int) ≤ (q : Int) by omega) hqm hcq
            refine AWp.skip ?_
            refine AWp.seq ?_
            refine AWp.region ?_
            refine AList.c 89 rfl rfl rfl (OpJ.move rfl rfl) ?_
            refine AList.c 90 rfl rfl rfl (OpJ.move rfl rfl) ?_
            refine AList.c 91 rfl rfl rfl (OpJ.move rfl rfl) ?_
            refine AList.c 92 rfl rfl rfl (OpJ.callP (fill_n need l (q : Int) hnl hll) rfl rfl rfl rfl rf16) ?_
            refine AList.c 88 rfl rfl rfl (OpJ.move rfl rfl) ?_
            refine AList.c 93 rfl rfl rfl (OpJ.extract rfl rfl rfl) ?_
            refine AList.c 94 rfl rfl rfl (OpJ.extract rfl rfl rfl) ?_
            refine AList.c 8 rfl rfl rfl (OpJ.assign rfl rfl) ?_
            refine AList.c 9 rfl rfl rfl (OpJ.assign rfl rfl) ?_
            refine AList.nil ?_
            refine AWp.seq ?_
            refine AWp.region ?_
            refine AList.c 96 rfl rfl rfl (OpJ.move rfl rfl) ?_
            refine AList.c 97 rfl rfl rfl (OpJ.move rfl rfl) ?_
            refine AList.c 98 rfl rfl rfl (OpJ.move rfl rfl) ?_
            refine AList.c 99 rfl rfl rfl (OpJ.move rfl rfl) ?_
            refine AList.c 100 rfl rfl rfl (OpJ.callP (good_raw hV (q : Int) (by omega) (by omega) (fR need l (q : Int)) hAs) rfl rfl rfl rfl rf24) ?_
            refine AList.c 95 rfl rfl rfl (OpJ.move rfl rfl) ?_
            refine AList.c 101 rfl rfl rfl (OpJ.extract rfl rfl rfl) ?_
            refine AList.c 102 rfl rfl rfl (OpJ.extract rfl rfl rfl) ?_
            refine AList.c 10 rfl rfl rfl (OpJ.assign rfl rfl) ?_
            refine AList.c 11 rfl rfl rfl (OpJ.assign rfl rfl) ?_
            refine AList.nil ?_
            refine AWp.seq ?_
            refine AWp.seq ?_
            refine AWp.region ?_
            refine AList.c 103 rfl rfl rfl (OpJ.move rfl rfl) ?_
            refine AList.c 104 rfl rfl rfl (OpJ.neq rfl rfl rfl) ?_
            refine AList.c 105 rfl rfl rfl (OpJ.move rfl rfl) ?_
            refine AList.g 106 105 rfl rfl rfl rfl rfl rfl rfl [(11, _)] (fun h => And.intro (.inl rfl) (trivial)) (fun h => (OpJ.move rfl rfl)) ?_
            refine AList.g 107 105 rfl rfl rfl rfl rfl rfl rfl [(106, _)] (fun h => And.intro (.inr ⟨_, rfl, h⟩) (trivial)) (fun h => (OpJ.not_ rfl rfl)) ?_
            refine AList.c 108 rfl rfl rfl (OpJ.or_ rfl rfl rfl ?_) ?_
            · first | (intro h; rw [h]; rfl) | (intro h; simp_all)
            refine AList.nil ?_
            refine AWp.cond _ rfl (fun hc5 => ?_) (fun hc5 => ?_)
            · skip
              rw [hfE] at hc5
              simp at hc5
            · skip
              refine AWp.skip ?_
              refine AWp.seq ?_
              refine AWp.region ?_
              refine AList.c 110 rfl rfl rfl (OpJ.move rfl rfl) ?_
              refine AList.c 111 rfl rfl rfl (OpJ.move rfl rfl) ?_
              refine AList.c 112 rfl rfl rfl (OpJ.move rfl rfl) ?_
              refine AList.c 113 rfl rfl rfl (OpJ.add rfl rfl rfl (i64ok ?_)) ?_
              · omega
              refine AList.c 114 rfl rfl rfl (OpJ.callP (fill_n need l ((q : Int) + 1) hnl hll) rfl rfl rfl rfl rf16) ?_
              refine AList.c 109 rfl rfl rfl (OpJ.move rfl rfl) ?_
              refine AList.c 115 rfl rfl rfl (OpJ.extract rfl rfl rfl) ?_
              refine AList.c 116 rfl rfl rfl (OpJ.extract rfl rfl rfl) ?_
              refine AList.c 12 rfl rfl rfl (OpJ.assign rfl rfl) ?_
              refine AList.c 13 rfl rfl rfl (OpJ.assign rfl rfl) ?_
              refine AList.nil ?_
              refine AWp.seq ?_
              refine AWp.region ?_
              refine AList.c 118 rfl rfl rfl (OpJ.move rfl rfl) ?_
              refine AList.c 119 rfl rfl rfl (OpJ.move rfl rfl) ?_
              refine AList.c 120 rfl rfl rfl (OpJ.move rfl rfl) ?_
              refine AList.c 121 rfl rfl rfl (OpJ.add rfl rfl rfl (i64ok ?_)) ?_
              · omega
              refine AList.c 122 rfl rfl rfl (OpJ.callP (lack_n need l ((q : Int) + 1) hnl hll) rfl rfl rfl rfl rf14) ?_
              refine AList.c 117 rfl rfl rfl (OpJ.move rfl rfl) ?_
              refine AList.c 123 rfl rfl rfl (OpJ.extract rfl rfl rfl) ?_
              refine AList.c 124 rfl rfl rfl (OpJ.extract rfl rfl rfl) ?_
              refine AList.c 125 rfl rfl rfl (OpJ.extract rfl rfl rfl) ?_
              refine AList.c 14 rfl rfl rfl (OpJ.assign rfl rfl) ?_
              refine AList.c 15 rfl rfl rfl (OpJ.assign rfl rfl) ?_
              refine AList.c 16 rfl rfl rfl (OpJ.assign rfl rfl) ?_
              refine AList.nil ?_
              refine AWp.seq ?_
              refine AWp.region ?_
              refine AList.c 127 rfl rfl rfl (OpJ.move rfl rfl) ?_
              refine AList.c 128 rfl rfl rfl (OpJ.move rfl rfl) ?_
              refine AList.c 129 rfl rfl rfl (OpJ.move rfl rfl) ?_
              refine AList.c 130 rfl rfl rfl (OpJ.callP (lack_n need l (q : Int) hnl hll) rfl rfl rfl rfl rf14) ?_
              refine AList.c 126 rfl rfl rfl (OpJ.move rfl rfl) ?_
              refine AList.c 131 rfl rfl rfl (OpJ.extract rfl rfl rfl) ?_
              refine AList.c 132 rfl rfl rfl (OpJ.extract rfl rfl rfl) ?_
              refine AList.c 133 rfl rfl rfl (OpJ.extract rfl rfl rfl) ?_
              refine AList.c 17 rfl rfl rfl (OpJ.assign rfl rfl) ?_
              refine AList.c 18 rfl rfl rfl (OpJ.assign rfl rfl) ?_
              refine AList.c 19 rfl rfl rfl (OpJ.assign rfl rfl) ?_
              refine AList.nil ?_
              refine AWp.seq ?_
              refine AWp.seq ?_
              refine AWp.region ?_
              refine AList.c 134 rfl rfl rfl (OpJ.move rfl rfl) ?_
              refine AList.c 135 rfl rfl rfl (OpJ.add rfl rfl rfl (i64ok ?_)) ?_
              · omega
              refine AList.c 136 rfl rfl rfl (OpJ.gtr rfl rfl rfl) ?_
              refine AList.nil ?_
              refine AWp.cond _ rfl (fun hc6 => ?_) (fun hc6 => ?_)
              · skip
                refine AWp.seq ?_
                refine AWp.region ?_
                refine AList.c 137 rfl rfl rfl (OpJ.callP (awake_ok) rfl rfl rfl rfl rf11) ?_
                refine AList.c 4 rfl rfl rfl (OpJ.assign rfl rfl) ?_
                refine AList.nil ?_
                refine AWp.ret ?_
                refine Fin.oneE rfl rfl ?_
                rfl
              · skip
                have hqm1 : (q : Int) + 1 ≤ 1048576 := by have h := of_decide_eq_false hc6; omega
                obtain ⟨hfE1, _⟩ := fill_no hV (show (0 : Int) ≤ (q : Int) + 1 by omega) hqm1 hcq1
                obtain ⟨s, hlE, hlS, hs1, hs2, hlN, _⟩ := lack_yes hV (show (0 : Int) ≤ (q : Int) + 1 by omega) hqm1 hcq1
                obtain ⟨hlE0, _⟩ := lack_no hV (show (0 : Int) ≤ (q : Int) by omega) hqm hcq
                refine AWp.skip ?_
                refine AWp.seq ?_
                refine AWp.region ?_
                refine AList.c 138 rfl rfl rfl (OpJ.move rfl rfl) ?_
                refine AList.c 139 rfl rfl rfl (OpJ.eql rfl rfl rfl) ?_
                refine AList.c 140 rfl rfl rfl (OpJ.move rfl rfl) ?_
                refine AList.g 141 140 rfl rfl rfl rfl rfl rfl rfl [(16, _)] (fun h => And.intro (.inl rfl) (trivial)) (fun h => (OpJ.move rfl rfl)) ?_
                refine AList.g 142 140 rfl rfl rfl rfl rfl rfl rfl [(141, _)] (fun h => And.intro (.inr ⟨_, rfl, h⟩) (trivial)) (fun h => (OpJ.eql rfl rfl rfl)) ?_
                refine AList.c 143 rfl rfl rfl (OpJ.and_ rfl rfl rfl ?_) ?_
                · first | (intro h; rw [h]; rfl) | (intro h; simp_all)
                refine AList.c 144 rfl rfl rfl (OpJ.move rfl rfl) ?_
                refine AList.g 145 144 rfl rfl rfl rfl rfl rfl rfl [(15, _)] (fun h => And.intro (.inl rfl) (trivial)) (fun h => (OpJ.move rfl rfl)) ?_
                refine AList.g 146 144 rfl rfl rfl rfl rfl rfl rfl [(145, _)] (fun h => And.intro (.inr ⟨_, rfl, h⟩) (trivial)) (fun h => (OpJ.gtr rfl rfl rfl)) ?_
                refine AList.c 147 rfl rfl rfl (OpJ.and_ rfl rfl rfl ?_) ?_
                · first | (intro h; rw [h]; rfl) | (intro h; simp_all)
                refine AList.c 148 rfl rfl rfl (OpJ.move rfl rfl) ?_
                refine AList.g 149 148 rfl rfl rfl rfl rfl rfl rfl [(14, _)] (fun h => And.intro (.inl rfl) (trivial)) (fun h => (OpJ.move rfl rfl)) ?_
                refine AList.g 150 148 rfl rfl rfl rfl rfl rfl rfl [(149, _)] (fun h => And.intro (.inr ⟨_, rfl, h⟩) (trivial)) (fun h => (OpJ.gtr rfl rfl rfl)) ?_
                refine AList.c 151 rfl rfl rfl (OpJ.and_ rfl rfl rfl ?_) ?_
                · first | (intro h; rw [h]; rfl) | (intro h; simp_all)
                refine AList.c 152 rfl rfl rfl (OpJ.move rfl rfl) ?_
                refine AList.g 153 152 rfl rfl rfl rfl rfl rfl rfl [(19, _)] (fun h => And.intro (.inl rfl) (trivial)) (fun h => (OpJ.move rfl rfl)) ?_
                refine AList.g 154 152 rfl rfl rfl rfl rfl rfl rfl [(153, _)] (fun h => And.intro (.inr ⟨_, rfl, h⟩) (trivial)) (fun h => (OpJ.eql rfl rfl rfl)) ?_
                refine AList.c 155 rfl rfl rfl (OpJ.and_ rfl rfl rfl ?_) ?_
                · first | (intro h; rw [h]; rfl) | (intro h; simp_all)
                refine AList.c 156 rfl rfl rfl (OpJ.move rfl rfl) ?_
                refine AList.g 157 156 rfl rfl rfl rfl rfl rfl rfl [] (fun h => trivial) (fun h => (OpJ.callP (awake_ok) rfl rfl rfl rfl rf11)) ?_
                refine AList.c 158 rfl rfl rfl (OpJ.and_ rfl rfl rfl ?_) ?_
                · first | (intro h; rw [h]; rfl) | (intro h; simp_all)
                refine AList.c 4 rfl rfl rfl (OpJ.assign rfl rfl) ?_
                refine AList.nil ?_
                refine AWp.ret ?_
                refine Fin.oneE rfl rfl ?_
                rw [hfE1, hlE, hlE0, hlS]
                have h1 : decide (0 < lN need l ((q : Int) + 1)) = true := decide_eq_true hlN
                have h2 : decide ((0 : Int) < (s : Int)) = true := decide_eq_true (by omega)
                rw [h1, h2]
                rfl
theorem boxFilled_law {x0 x1 : List PV} (h0 : TyL [.sl [.leaf (.int .i64)]] x0) (h1 : TyL [.sl [.leaf (.int .i64), .leaf (.int .i64)]] x1) : Pure Try.prog 5 [argP false x0, argP false x1] (.bool true) := by
  obtain ⟨need, rfl, _⟩ := sl_of (fun _ => i1_of) h0
  obtain ⟨l, rfl, _⟩ := sl_of (fun _ => pr_of) h1
  exact BoxFilled_ok need l
end Go.Proofs.Ytpamkihpffoflaa
