/-
  The law BoxUsed.
-/
import Derived.Test.YtpamkihpffoflaaBxFactsF
import Derived.Test.YtpamkihpffoflaaBx21
import Derived.Test.YtpamkihpffoflaaBx22
import Derived.Test.YtpamkihpffoflaaBxU
import Derived.Test.YtpamkihpffoflaaAfH
set_option linter.unusedVariables false
set_option maxRecDepth 100000
set_option maxHeartbeats 4000000
set_option linter.unusedSimpArgs false
namespace Go.Proofs.Ytpamkihpffoflaa
open Go.AF
theorem prTake (l : List Pr) {k : Nat} (h : k ≤ l.length) : ((l.flatMap Pr.cells).drop (0 * 2)).take ((k - 0) * 2) = (l.take k).flatMap Pr.cells := by
  rw [Nat.zero_mul, List.drop_zero, Nat.sub_zero, flat_take (c := 2) (fun _ => rfl)]
theorem prTake_len (l : List Pr) {k : Nat} (h : k ≤ l.length) : ((l.take k).flatMap Pr.cells).length = (k - 0) * 2 := by
  rw [prs_len, List.length_take, Nat.min_eq_left h]; rfl
theorem prDrop (l : List Pr) (n : Nat) : ((l.flatMap Pr.cells).drop (n * 2)).take ((l.length - n) * 2) = (l.drop n).flatMap Pr.cells := by
  rw [flat_cut (c := 2) (fun _ => rfl)]
  apply List.take_of_length_le
  rw [prs_len, List.length_drop]; exact Nat.le_refl _
theorem prDrop_len (l : List Pr) (k : Nat) : ((l.drop k).flatMap Pr.cells).length = (l.length - k) * 2 := by
  rw [prs_len, List.length_drop]
theorem fill_L (need : List Int) (l : List Pr) (b : Int) (R : Nat) (hR : l.length = R) (hnl : need.length ≤ bigN) (hll : R ≤ bigN) : Pure Try.prog 16 [intsV need, .is (l.flatMap Pr.cells) R, .int .i64 b] (.tuple [rowsV need.length (fR need l b), .int .i64 (fE need l b)]) := by
  subst hR; exact fill_n need l b hnl hll
theorem front_raw {l : List Pr} {kk : Nat} (hk0 : kk < l.length) : rawV (frontP l kk) = .is (([.int .i64 l[kk].s, .int .i64 l[kk].m] ++ (l.take kk).flatMap Pr.cells) ++ (l.drop (kk + 1)).flatMap Pr.cells) (1 + (kk - 0) + (l.length - (kk + 1))) := by
  unfold rawV
  rw [frontP_len hk0]
  have e : l[kk]?.getD ⟨0, 0⟩ = l[kk] := by simp [hk0]
  have e2 : (frontP l kk).flatMap Pr.cells = (([.int .i64 l[kk].s, .int .i64 l[kk].m] ++ (l.take kk).flatMap Pr.cells) ++ (l.drop (kk + 1)).flatMap Pr.cells) := by
    unfold frontP
    rw [e, List.flatMap_cons, List.flatMap_append, List.append_assoc]; rfl
  rw [e2, show (1 + (kk - 0) + (l.length - (kk + 1))) = l.length by omega]
theorem fill_front (need : List Int) (l : List Pr) (b : Int) (kk : Nat) (hk0 : kk < l.length) (hnl : need.length ≤ bigN) (hll : l.length ≤ bigN) : Pure Try.prog 16 [intsV need, .is (([.int .i64 l[kk].s, .int .i64 l[kk].m] ++ (l.take kk).flatMap Pr.cells) ++ (l.drop (kk + 1)).flatMap Pr.cells) (1 + (kk - 0) + (l.length - (kk + 1))), .int .i64 b] (.tuple [rowsV need.length (fR need (frontP l kk) b), .int .i64 (fE need (frontP l kk) b)]) := by
  rw [← front_raw hk0]; exact fill_n need (frontP l kk) b hnl (by rw [frontP_len hk0]; exact hll)
theorem good_front {need : List Int} {l : List Pr} (b : Int) (kk : Nat) (hk0 : kk < l.length) (hV : Vld need l) (b0 : 0 ≤ b) (b1 : b ≤ 1048576) (rows : List (List Int)) (hA : Asg need (toPl (frontP l kk)) b rows) : Pure Try.prog 24 [intsV need, .is (([.int .i64 l[kk].s, .int .i64 l[kk].m] ++ (l.take kk).flatMap Pr.cells) ++ (l.drop (kk + 1)).flatMap Pr.cells) (1 + (kk - 0) + (l.length - (kk + 1))), .int .i64 b, rowsV need.length rows] (.tuple [intsV (usedL rows), .bool true]) := by
  rw [← front_raw hk0]; exact good_raw (vld_front hV hk0) b b0 b1 rows hA
theorem usedL_get {rows : List (List Int)} {k : Nat} (h : k < rows.length) : (usedL rows)[k]'(by rw [usedL_len]; exact h) = (rows[k]?.getD []).sum := by simp [usedL, h]
theorem BoxUsed_ok (need : List Int) (l : List Pr) (b k : Int) : Pure Try.prog 7 [intsV need, rawV l, .int .i64 b, .int .i64 k] (.bool true) := by
  refine Pure.start (N := 209) Try.func7 rfl rfl (Nat.le_of_ble_eq_true rfl) ?_
  refine AWp.seq ?_
  refine AWp.region ?_
  refine AList.c 8 rfl rfl rfl (OpJ.assign rfl rfl) ?_
  refine AList.nil ?_
  refine AWp.seq ?_
  refine AWp.seq ?_
  refine AWp.region ?_
  refine AList.c 22 rfl rfl rfl (OpJ.move rfl rfl) ?_
  refine AList.c 23 rfl rfl rfl (OpJ.move rfl rfl) ?_
  refine AList.c 24 rfl rfl rfl (OpJ.callP (large_ok need l) rfl rfl rfl rfl rf10) ?_
  refine AList.nil ?_
  refine AWp.cond _ rfl (fun hc0 => ?_) (fun hc0 => ?_)
  · skip
    refine AWp.seq ?_
    refine AWp.region ?_
    refine AList.c 25 rfl rfl rfl (OpJ.callP (awake_ok) rfl rfl rfl rfl rf11) ?_
    refine AList.c 8 rfl rfl rfl (OpJ.assign rfl rfl) ?_
    refine AList.nil ?_
    refine AWp.ret ?_
    refine Fin.oneE rfl rfl ?_
    rfl
  · skip
    have hnl : need.length ≤ bigN := by unfold bigN; simp at hc0; omega
    have hll : l.length ≤ bigN := by unfold bigN; simp at hc0; omega
    refine AWp.skip ?_
    refine AWp.seq ?_
    refine AWp.region ?_
    refine AList.c 27 rfl rfl rfl (OpJ.move rfl rfl) ?_
    refine AList.c 28 rfl rfl rfl (OpJ.move rfl rfl) ?_
    refine AList.c 29 rfl rfl rfl (OpJ.move rfl rfl) ?_
    refine AList.c 30 rfl rfl rfl (OpJ.move rfl rfl) ?_
    refine AList.c 31 rfl rfl rfl (OpJ.callP (use_n need l b k hnl hll) rfl rfl rfl rfl rf18) ?_
    refine AList.c 26 rfl rfl rfl (OpJ.move rfl rfl) ?_
    refine AList.c 32 rfl rfl rfl (OpJ.extract rfl rfl rfl) ?_
    refine AList.c 33 rfl rfl rfl (OpJ.extract rfl rfl rfl) ?_
    refine AList.c 9 rfl rfl rfl (OpJ.allocOwn rfl zr35 rfl) ?_
    refine AList.c0 rfl rfl (OpJ.store rfl rfl rfl rfl rfl ty35 rfl rfl) ?_
    refine AList.c 10 rfl rfl rfl (OpJ.assign rfl rfl) ?_
    refine AList.nil ?_
    refine AWp.seq ?_
    refine AWp.seq ?_
    refine AWp.region ?_
    refine AList.c 34 rfl rfl rfl (OpJ.move rfl rfl) ?_
    refine AList.c 35 rfl rfl rfl (OpJ.neq rfl rfl rfl) ?_
    refine AList.nil ?_
    refine AWp.cond _ rfl (fun hc1 => ?_) (fun hc1 => ?_)
    · skip
      have hu : uE need l b k ≠ 0 := by simpa using hc1
      refine AWp.seq ?_
      refine AWp.region ?_
      refine AList.c 36 rfl rfl rfl (OpJ.load rfl rfl ty35 rfl) ?_
      refine AList.c 37 rfl rfl rfl (OpJ.build rfl bd35 rfl rfl) ?_
      refine AList.c 38 rfl rfl rfl (OpJ.eqAgg (d := 8) rfl (.inl rfl) rfl rfl (by decide) eq35 ty35 rfl eg35 rfl) ?_
      refine AList.c 39 rfl rfl rfl (OpJ.move rfl rfl) ?_
      refine AList.g 40 39 rfl rfl rfl rfl rfl rfl rfl [(10, _)] (fun h => And.intro (.inl rfl) (trivial)) (fun h => (OpJ.move rfl rfl)) ?_
      refine AList.g 41 39 rfl rfl rfl rfl rfl rfl rfl [(40, _)] (fun h => And.intro (.inr ⟨_, rfl, h⟩) (trivial)) (fun h => (OpJ.eql rfl rfl rfl)) ?_
      refine AList.g 42 39 rfl rfl rfl rfl rfl rfl rfl [(0, _)] (fun h => And.intro (.inl rfl) (trivial)) (fun h => (OpJ.move rfl rfl)) ?_
      refine AList.g 43 39 rfl rfl rfl rfl rfl rfl rfl [(1, _)] (fun h => And.intro (.inl rfl) (trivial)) (fun h => (OpJ.move rfl rfl)) ?_
      refine AList.g 44 39 rfl rfl rfl rfl rfl rfl rfl [(42, _), (43, _)] (fun h => And.intro (.inr ⟨_, rfl, h⟩) (And.intro (.inr ⟨_, rfl, h⟩) (trivial))) (fun h => (OpJ.callP (rvalid_ok need l hnl hll) rfl rfl rfl rfl rf21)) ?_
      refine AList.g 45 39 rfl rfl rfl rfl rfl rfl rfl [(44, _)] (fun h => And.intro (.inr ⟨_, rfl, h⟩) (trivial)) (fun h => (OpJ.not_ rfl rfl)) ?_
      refine AList.g 46 39 rfl rfl rfl rfl rfl rfl rfl [(41, _), (45, _)] (fun h => And.intro (.inr ⟨_, rfl, h⟩) (And.intro (.inr ⟨_, rfl, h⟩) (trivial))) (fun h => (OpJ.eqBool rfl rfl rfl un4)) ?_
      refine AList.c 47 rfl rfl rfl (OpJ.and_ rfl rfl rfl ?_) ?_
      · first | (intro h; rw [h]; rfl) | (intro h; simp_all)
      refine AList.c 48 rfl rfl rfl (OpJ.move rfl rfl) ?_
      refine AList.g 49 48 rfl rfl rfl rfl rfl rfl rfl [] (fun h => trivial) (fun h => (OpJ.callP (awake_ok) rfl rfl rfl rfl rf11)) ?_
      refine AList.c 50 rfl rfl rfl (OpJ.and_ rfl rfl rfl ?_) ?_
      · first | (intro h; rw [h]; rfl) | (intro h; simp_all)
      refine AList.c 8 rfl rfl rfl (OpJ.assign rfl rfl) ?_
      refine AList.nil ?_
      refine AWp.ret ?_
      refine Fin.oneE rfl rfl ?_
      obtain ⟨a, c, d⟩ := use_err hu
      rw [a, c]
      by_cases hV : Vld need l
      · have h1 : uE need l b k ≠ 1 := fun h => d.1 h hV
        simp [h1, hV]
      · have h1 := d.2 hV
        simp [h1, hV]
    · skip
      obtain ⟨hV, hb, hkr, hcb, huL, huH⟩ := use_fine (show uE need l b k = 0 by simpa using hc1)
      have hn : okN need := hV.2.2.1
      have h8 := hV.1.2
      have h0 := hV.1.1
      have hL := toPl_ok hV
      have hp := pow8 h8
      have hp1 := pow_pos' need.length
      have hA : allS need.length = 2 ^ need.length - 1 := rfl
      have hl8 := hL.1
      obtain ⟨kk, rfl⟩ := Int.eq_ofNat_of_zero_le hkr.1
      rw [Int.toNat_natCast] at huL huH
      have hk0 : kk < l.length := by omega
      have hkT : kk < (toPl l).length := by rw [toPl_len]; exact hk0
      obtain ⟨hg1, hg2⟩ := toPl_get hV hk0
      obtain ⟨hfE, hAs, hfR⟩ := fill_yes hV hb.1 hb.2 hcb
      have hel : (toPl l)[kk]?.getD ⟨0, 0⟩ = (toPl l)[kk] := by simp [hkT]
      rw [hel] at huH
      obtain ⟨hw0, hw1, hw2, hw3⟩ := few_can hL hkT hcb
      have hat := asg_top hAs hL hkT
      have han := asg_need hAs hL hkT
      have hca := hAs.cap kk hkT
      rw [hel] at hat hca
      rw [← huL] at hw0 hw1 hw2 hw3 han
      have hm : (toPl l)[kk].m = l[kk].m := by rw [hg1]
      have hpk := hL.2 (toPl l)[kk] (List.getElem_mem _)
      have hll8 : l.length ≤ 8 := by rw [← toPl_len]; exact hl8
      have hrk : kk < (fR need l b).length := by rw [hAs.len]; exact hkT
      have hku : kk < (usedL (fR need l b)).length := by rw [usedL_len]; exact hrk
      have huv := usedL_get hrk
      refine AWp.skip ?_
      refine AWp.seq ?_
      refine AWp.seq ?_
      refine AWp.regionDraw 36 mixed (by kernel_rfl) (by decide) ?_
      refine AQuiet.cons 51 rfl rfl rfl (OpJ.move rfl rfl) ?_
      refine AQuiet.cons 52 rfl rfl rfl (OpJ.move rfl rfl) ?_
      refine AQuiet.cons 53 rfl rfl rfl (OpJ.callP (rvalid_ok need l hnl hll) rfl rfl rfl rfl rf21) ?_
      refine AQuiet.cons 54 rfl rfl rfl (OpJ.not_ rfl rfl) ?_
      refine AQuiet.cons 55 rfl rfl rfl (OpJ.move rfl rfl) ?_
      refine AQuiet.guard 56 55 rfl rfl rfl rfl rfl rfl rfl [(3, _)] (fun h => And.intro (.inl rfl) (trivial)) (fun h => (OpJ.move rfl rfl)) ?_
      refine AQuiet.guard 57 55 rfl rfl rfl rfl rfl rfl rfl [(56, _)] (fun h => And.intro (.inr ⟨_, rfl, h⟩) (trivial)) (fun h => (OpJ.lss rfl rfl rfl)) ?_
      refine AQuiet.cons 58 rfl rfl rfl (OpJ.or_ rfl rfl rfl ?_) ?_
      · first | (intro h; rw [h]; rfl) | (intro h; simp_all)
      refine AQuiet.cons 59 rfl rfl rfl (OpJ.move rfl rfl) ?_
      refine AQuiet.guard 60 59 rfl rfl rfl rfl rfl rfl rfl [(3, _)] (fun h => And.intro (.inl rfl) (trivial)) (fun h => (OpJ.move rfl rfl)) ?_
      refine AQuiet.guard 61 59 rfl rfl rfl rfl rfl rfl rfl [(1, _)] (fun h => And.intro (.inl rfl) (trivial)) (fun h => (OpJ.move rfl rfl)) ?_
      refine AQuiet.guard 62 59 rfl rfl rfl rfl rfl rfl rfl [(61, _)] (fun h => And.intro (.inr ⟨_, rfl, h⟩) (trivial)) (fun h => (OpJ.lenSlice rfl rfl sl23 rfl)) ?_
      refine AQuiet.guard 63 59 rfl rfl rfl rfl rfl rfl rfl [(60, _), (62, _)] (fun h => And.intro (.inr ⟨_, rfl, h⟩) (And.intro (.inr ⟨_, rfl, h⟩) (trivial))) (fun h => (OpJ.geq rfl rfl rfl)) ?_
      refine AQuiet.cons 64 rfl rfl rfl (OpJ.or_ rfl rfl rfl ?_) ?_
      · first | (intro h; rw [h]; rfl) | (intro h; simp_all)
      refine AQuiet.cons 65 rfl rfl rfl (OpJ.move rfl rfl) ?_
      refine AQuiet.guard 66 65 rfl rfl rfl rfl rfl rfl rfl [(9, _)] (fun h => And.intro (.inl rfl) (trivial)) (fun h => (OpJ.fieldAddr rfl rfl fd35_0 rfl)) ?_
      refine AQuiet.guard 67 65 rfl rfl rfl rfl rfl rfl rfl [(66, _)] (fun h => And.intro (.inr ⟨_, rfl, h⟩) (trivial)) (fun h => (OpJ.load rfl rfl ty3 rfl)) ?_
      refine AQuiet.guard 68 65 rfl rfl rfl rfl rfl rfl rfl [(67, _)] (fun h => And.intro (.inr ⟨_, rfl, h⟩) (trivial)) (fun h => (OpJ.lss rfl rfl rfl)) ?_
      refine AQuiet.cons 69 rfl rfl rfl (OpJ.or_ rfl rfl rfl ?_) ?_
      · first | (intro h; rw [h]; rfl) | (intro h; simp_all)
      refine AQuiet.cons 70 rfl rfl rfl (OpJ.move rfl rfl) ?_
      refine AQuiet.guard 71 70 rfl rfl rfl rfl rfl rfl rfl [(9, _)] (fun h => And.intro (.inl rfl) (trivial)) (fun h => (OpJ.fieldAddr rfl rfl fd35_0 rfl)) ?_
      refine AQuiet.guard 72 70 rfl rfl rfl rfl rfl rfl rfl [(71, _)] (fun h => And.intro (.inr ⟨_, rfl, h⟩) (trivial)) (fun h => (OpJ.load rfl rfl ty3 rfl)) ?_
      refine AQuiet.guard 73 70 rfl rfl rfl rfl rfl rfl rfl [(9, _)] (fun h => And.intro (.inl rfl) (trivial)) (fun h => (OpJ.fieldAddr rfl rfl fd35_1 rfl)) ?_
      refine AQuiet.guard 74 70 rfl rfl rfl rfl rfl rfl rfl [(73, _)] (fun h => And.intro (.inr ⟨_, rfl, h⟩) (trivial)) (fun h => (OpJ.load rfl rfl ty3 rfl)) ?_
      refine AQuiet.guard 75 70 rfl rfl rfl rfl rfl rfl rfl [(72, _), (74, _)] (fun h => And.intro (.inr ⟨_, rfl, h⟩) (And.intro (.inr ⟨_, rfl, h⟩) (trivial))) (fun h => (OpJ.gtr rfl rfl rfl)) ?_
      refine AQuiet.cons 76 rfl rfl rfl (OpJ.or_ rfl rfl rfl ?_) ?_
      · first | (intro h; rw [h]; rfl) | (intro h; simp_all)
      refine AQuiet.cons 77 rfl rfl rfl (OpJ.move rfl rfl) ?_
      refine AQuiet.guard 78 77 rfl rfl rfl rfl rfl rfl rfl [(9, _)] (fun h => And.intro (.inl rfl) (trivial)) (fun h => (OpJ.fieldAddr rfl rfl fd35_1 rfl)) ?_
      refine AQuiet.guard 79 77 rfl rfl rfl rfl rfl rfl rfl [(78, _)] (fun h => And.intro (.inr ⟨_, rfl, h⟩) (trivial)) (fun h => (OpJ.load rfl rfl ty3 rfl)) ?_
      refine AQuiet.guard 80 77 rfl rfl rfl rfl rfl rfl rfl [(1, _)] (fun h => And.intro (.inl rfl) (trivial)) (fun h => (OpJ.move rfl rfl)) ?_
      refine AQuiet.guard 81 77 rfl rfl rfl rfl rfl rfl rfl [(3, _)] (fun h => And.intro (.inl rfl) (trivial)) (fun h => (OpJ.move rfl rfl)) ?_
      refine AQuiet.guard 82 77 rfl rfl rfl rfl rfl rfl rfl [(80, _), (81, _)] (fun h => And.intro (.inr ⟨_, rfl, h⟩) (And.intro (.inr ⟨_, rfl, h⟩) (trivial))) (fun h => (OpJ.indexEl rfl rfl rfl sl23 el23 rfl (fun _ => rfl) (by decide) hk0)) ?_
      refine AQuiet.guard 83 77 rfl rfl rfl rfl rfl rfl rfl [(82, _)] (fun h => And.intro (.inr ⟨_, rfl, h⟩) (trivial)) (fun h => (OpJ.fieldAddr rfl rfl fd46_1 rfl)) ?_
      refine AQuiet.guard 84 77 rfl rfl rfl rfl rfl rfl rfl [(83, _)] (fun h => And.intro (.inr ⟨_, rfl, h⟩) (trivial)) (fun h => (OpJ.load rfl rfl ty3 rfl)) ?_
      refine AQuiet.guard 85 77 rfl rfl rfl rfl rfl rfl rfl [(79, _), (84, _)] (fun h => And.intro (.inr ⟨_, rfl, h⟩) (And.intro (.inr ⟨_, rfl, h⟩) (trivial))) (fun h => (OpJ.gtr rfl rfl rfl)) ?_
      refine AQuiet.cons 86 rfl rfl rfl (OpJ.or_ rfl rfl rfl ?_) ?_
      · first | (intro h; rw [h]; rfl) | (intro h; simp_all)
      refine AQuiet.nil ?_
      refine AList.nil ?_
      refine AWp.cond _ rfl (fun hc2 => ?_) (fun hc2 => ?_)
      · skip
        simp only [Bool.or_eq_true, Bool.not_eq_true', decide_eq_true_eq, decide_eq_false_iff_not] at hc2
        rcases hc2 with ((((h | h) | h) | h) | h) | h
        · exact absurd hV h
        all_goals exact absurd h (by omega)
      · skip
        refine AWp.skip ?_
        refine AWp.seq ?_
        refine AWp.region ?_
        refine AList.c 88 rfl rfl rfl (OpJ.move rfl rfl) ?_
        refine AList.c 89 rfl rfl rfl (OpJ.move rfl rfl) ?_
        refine AList.c 90 rfl rfl rfl (OpJ.move rfl rfl) ?_
        refine AList.c 91 rfl rfl rfl (OpJ.callP (fill_n need l b hnl hll) rfl rfl rfl rfl rf16) ?_
        refine AList.c 87 rfl rfl rfl (OpJ.move rfl rfl) ?_
        refine AList.c 92 rfl rfl rfl (OpJ.extract rfl rfl rfl) ?_
        refine AList.c 93 rfl rfl rfl (OpJ.extract rfl rfl rfl) ?_
        refine AList.c 11 rfl rfl rfl (OpJ.assign rfl rfl) ?_
        refine AList.c 12 rfl rfl rfl (OpJ.assign rfl rfl) ?_
        refine AList.nil ?_
        refine AWp.seq ?_
        refine AWp.region ?_
        refine AList.c 95 rfl rfl rfl (OpJ.move rfl rfl) ?_
        refine AList.c 96 rfl rfl rfl (OpJ.move rfl rfl) ?_
        refine AList.c 97 rfl rfl rfl (OpJ.move rfl rfl) ?_
        refine AList.c 98 rfl rfl rfl (OpJ.move rfl rfl) ?_
        refine AList.c 99 rfl rfl rfl (OpJ.callP (good_raw hV b hb.1 hb.2 (fR need l b) hAs) rfl rfl rfl rfl rf24) ?_
        refine AList.c 94 rfl rfl rfl (OpJ.move rfl rfl) ?_
        refine AList.c 100 rfl rfl rfl (OpJ.extract rfl rfl rfl) ?_
        refine AList.c 101 rfl rfl rfl (OpJ.extract rfl rfl rfl) ?_
        refine AList.c 13 rfl rfl rfl (OpJ.assign rfl rfl) ?_
        refine AList.c 14 rfl rfl rfl (OpJ.assign rfl rfl) ?_
        refine AList.nil ?_
        refine AWp.seq ?_
        refine AWp.seq ?_
        refine AWp.regionDraw 24 mixed (by kernel_rfl) (by decide) ?_
        refine AQuiet.cons 102 rfl rfl rfl (OpJ.move rfl rfl) ?_
        refine AQuiet.cons 103 rfl rfl rfl (OpJ.neq rfl rfl rfl) ?_
        refine AQuiet.cons 104 rfl rfl rfl (OpJ.move rfl rfl) ?_
        refine AQuiet.guard 105 104 rfl rfl rfl rfl rfl rfl rfl [(14, _)] (fun h => And.intro (.inl rfl) (trivial)) (fun h => (OpJ.move rfl rfl)) ?_
        refine AQuiet.guard 106 104 rfl rfl rfl rfl rfl rfl rfl [(105, _)] (fun h => And.intro (.inr ⟨_, rfl, h⟩) (trivial)) (fun h => (OpJ.not_ rfl rfl)) ?_
        refine AQuiet.cons 107 rfl rfl rfl (OpJ.or_ rfl rfl rfl ?_) ?_
        · first | (intro h; rw [h]; rfl) | (intro h; simp_all)
        refine AQuiet.cons 108 rfl rfl rfl (OpJ.move rfl rfl) ?_
        refine AQuiet.guard 109 108 rfl rfl rfl rfl rfl rfl rfl [(13, _)] (fun h => And.intro (.inl rfl) (trivial)) (fun h => (OpJ.move rfl rfl)) ?_
        refine AQuiet.guard 110 108 rfl rfl rfl rfl rfl rfl rfl [(3, _)] (fun h => And.intro (.inl rfl) (trivial)) (fun h => (OpJ.move rfl rfl)) ?_
        refine AQuiet.guard 111 108 rfl rfl rfl rfl rfl rfl rfl [(109, _), (110, _)] (fun h => And.intro (.inr ⟨_, rfl, h⟩) (And.intro (.inr ⟨_, rfl, h⟩) (trivial))) (fun h => (OpJ.indexEl rfl rfl rfl sl22 el22 rfl (fun _ => rfl) (by decide) hku)) ?_
        refine AQuiet.guard 112 108 rfl rfl rfl rfl rfl rfl rfl [(111, _)] (fun h => And.intro (.inr ⟨_, rfl, h⟩) (trivial)) (fun h => (OpJ.load rfl rfl ty3 rfl)) ?_
        refine AQuiet.guard 113 108 rfl rfl rfl rfl rfl rfl rfl [(9, _)] (fun h => And.intro (.inl rfl) (trivial)) (fun h => (OpJ.fieldAddr rfl rfl fd35_0 rfl)) ?_
        refine AQuiet.guard 114 108 rfl rfl rfl rfl rfl rfl rfl [(113, _)] (fun h => And.intro (.inr ⟨_, rfl, h⟩) (trivial)) (fun h => (OpJ.load rfl rfl ty3 rfl)) ?_
        refine AQuiet.guard 115 108 rfl rfl rfl rfl rfl rfl rfl [(112, _), (114, _)] (fun h => And.intro (.inr ⟨_, rfl, h⟩) (And.intro (.inr ⟨_, rfl, h⟩) (trivial))) (fun h => (OpJ.lss rfl rfl rfl)) ?_
        refine AQuiet.cons 116 rfl rfl rfl (OpJ.or_ rfl rfl rfl ?_) ?_
        · first | (intro h; rw [h]; rfl) | (intro h; simp_all)
        refine AQuiet.cons 117 rfl rfl rfl (OpJ.move rfl rfl) ?_
        refine AQuiet.guard 118 117 rfl rfl rfl rfl rfl rfl rfl [(13, _)] (fun h => And.intro (.inl rfl) (trivial)) (fun h => (OpJ.move rfl rfl)) ?_
        refine AQuiet.guard 119 117 rfl rfl rfl rfl rfl rfl rfl [(3, _)] (fun h => And.intro (.inl rfl) (trivial)) (fun h => (OpJ.move rfl rfl)) ?_
        refine AQuiet.guard 120 117 rfl rfl rfl rfl rfl rfl rfl [(118, _), (119, _)] (fun h => And.intro (.inr ⟨_, rfl, h⟩) (And.intro (.inr ⟨_, rfl, h⟩) (trivial))) (fun h => (OpJ.indexEl rfl rfl rfl sl22 el22 rfl (fun _ => rfl) (by decide) hku)) ?_
        refine AQuiet.guard 121 117 rfl rfl rfl rfl rfl rfl rfl [(120, _)] (fun h => And.intro (.inr ⟨_, rfl, h⟩) (trivial)) (fun h => (OpJ.load rfl rfl ty3 rfl)) ?_
        refine AQuiet.guard 122 117 rfl rfl rfl rfl rfl rfl rfl [(9, _)] (fun h => And.intro (.inl rfl) (trivial)) (fun h => (OpJ.fieldAddr rfl rfl fd35_1 rfl)) ?_
        refine AQuiet.guard 123 117 rfl rfl rfl rfl rfl rfl rfl [(122, _)] (fun h => And.intro (.inr ⟨_, rfl, h⟩) (trivial)) (fun h => (OpJ.load rfl rfl ty3 rfl)) ?_
        refine AQuiet.guard 124 117 rfl rfl rfl rfl rfl rfl rfl [(121, _), (123, _)] (fun h => And.intro (.inr ⟨_, rfl, h⟩) (And.intro (.inr ⟨_, rfl, h⟩) (trivial))) (fun h => (OpJ.gtr rfl rfl rfl)) ?_
        refine AQuiet.cons 125 rfl rfl rfl (OpJ.or_ rfl rfl rfl ?_) ?_
        · first | (intro h; rw [h]; rfl) | (intro h; simp_all)
        refine AQuiet.nil ?_
        refine AList.nil ?_
        refine AWp.cond _ rfl (fun hc3 => ?_) (fun hc3 => ?_)
        · skip
          rw [hfE, huv] at hc3
          simp only [Bool.or_eq_true, Bool.not_eq_true', decide_eq_true_eq, decide_eq_false_iff_not, Bool.not_true, Bool.false_eq_true, or_false] at hc3
          rcases hc3 with (h | h) | h
          · simp at h
          all_goals exact absurd h (by omega)
        · skip
          have hVf := vld_front hV hk0
          have hcf : canB need (toPl (frontP l kk)) b = true := by rw [front_can hk0]; exact hcb
          obtain ⟨hfEf, hAf, hfRf⟩ := fill_yes hVf hb.1 hb.2 hcf
          have hLf := toPl_ok hVf
          have hIf := LInv.ok hLf hn h8 hb.1 (by omega) (of_decide_eq_true hcf)
          have hf0 : 0 < (toPl (frontP l kk)).length := by rw [toPl_len, frontP_len hk0]; omega
          have hfs := first_sum hLf hIf hf0
          rw [← hfRf] at hfs
          simp only [toPl_front hk0, List.getElem_cons_zero] at hfs
          rw [← huH] at hfs
          have hrf : 0 < (fR need (frontP l kk) b).length := by rw [hAf.len]; exact hf0
          have hkf : 0 < (usedL (fR need (frontP l kk) b)).length := by rw [usedL_len]; exact hrf
          have huf := usedL_get hrf
          have v1 : Vld need (l.set kk (⟨l[kk].s, (uL need l b (kk : Int))⟩ : Pr)) := vld_set hV hk0 hw0 (by omega)
          have e1 := (fill_yes v1 hb.1 hb.2 (by rw [toPl_set]; rw [hg1] at hw2; exact hw2)).1
          refine AWp.skip ?_
          refine AWp.seq ?_
          refine AWp.region ?_
          refine AList.c 126 rfl rfl rfl (OpJ.buildOwn rfl slz23 (by decide) rfl rfl) ?_
          refine AList.c 127 rfl rfl rfl (OpJ.move rfl rfl) ?_
          refine AList.c 128 rfl rfl rfl (OpJ.appendRow rfl rfl rfl slz23 sl23 rfl ?_ (asrc_is (xs := (l.flatMap Pr.cells)) (n := l.length) (sz := 2) (prs_len l)) (onePr _) by46 (by decide) ?_) ?_
          · rfl
          · show (2 * (0 + l.length) + 192) * 16 ≤ 281474976710656; omega
          refine AList.c 15 rfl rfl rfl (OpJ.assign rfl rfl) ?_
          refine AList.nil ?_
          refine AWp.seq ?_
          refine AWp.region ?_
          refine AList.c 129 rfl rfl rfl (OpJ.move rfl rfl) ?_
          refine AList.c 130 rfl rfl rfl (OpJ.move rfl rfl) ?_
          refine AList.c 131 rfl rfl rfl (OpJ.fieldAddr rfl rfl fd35_0 rfl) ?_
          refine AList.c 132 rfl rfl rfl (OpJ.load rfl rfl ty3 rfl) ?_
          refine AList.c 133 rfl rfl rfl (OpJ.indexRow rfl rfl rfl sl23 el23 (show kk < 0 + l.length by omega)) ?_
          refine AList.c 134 rfl rfl rfl (OpJ.fieldAddr rfl rfl fd46_1 rfl) ?_
          refine AList.c0 rfl rfl (OpJ.storeRow (f := Pr.cells) (c := 2) (k := kk) (j := 1) (xs := l) (z := (⟨l[kk].s, (uL need l b (kk : Int))⟩ : Pr)) (ws := [_]) rfl rfl rfl rfl rfl ty3 rfl rfl rfl (by omega) (fun _ => rfl) hk0 (Nat.le_of_ble_eq_true rfl) rfl) ?_
          refine AList.nil ?_
          refine AWp.seq ?_
          refine AWp.region ?_
          refine AList.c 136 rfl rfl rfl (OpJ.move rfl rfl) ?_
          refine AList.c 137 rfl rfl rfl (OpJ.move rfl rfl) ?_
          refine AList.c 138 rfl rfl rfl (OpJ.move rfl rfl) ?_
          refine AList.c 139 rfl rfl rfl (OpJ.callBt 3 (fill_L need (l.set kk (⟨l[kk].s, (uL need l b (kk : Int))⟩ : Pr)) b (0 + l.length) (by rw [List.length_set]; omega) hnl (by omega)) rfl rfl rfl rfl (mapO.c brwP (mapO.c (brwRow rfl) (mapO.c brwP mapO.n))) rf16) ?_
          refine AList.c 135 rfl rfl rfl (OpJ.move rfl rfl) ?_
          refine AList.c 140 rfl rfl rfl (OpJ.extract rfl rfl rfl) ?_
          refine AList.c 141 rfl rfl rfl (OpJ.extract rfl rfl rfl) ?_
          refine AList.c 16 rfl rfl rfl (OpJ.assign rfl rfl) ?_
          refine AList.c 17 rfl rfl rfl (OpJ.assign rfl rfl) ?_
          refine AList.nil ?_
          refine AWp.seq ?_
          refine AWp.seq ?_
          refine AWp.region ?_
          refine AList.c 142 rfl rfl rfl (OpJ.move rfl rfl) ?_
          refine AList.c 143 rfl rfl rfl (OpJ.neq rfl rfl rfl) ?_
          refine AList.nil ?_
          refine AWp.cond _ rfl (fun hc4 => ?_) (fun hc4 => ?_)
          · skip
            rw [e1] at hc4
            simp at hc4
          · skip
            refine AWp.skip ?_
            refine AWp.seq ?_
            refine AWp.seq ?_
            refine AWp.region ?_
            refine AList.c 144 rfl rfl rfl (OpJ.fieldAddr rfl rfl fd35_0 rfl) ?_
            refine AList.c 145 rfl rfl rfl (OpJ.load rfl rfl ty3 rfl) ?_
            refine AList.c 146 rfl rfl rfl (OpJ.gtr rfl rfl rfl) ?_
            refine AList.nil ?_
            refine AWp.cond _ rfl (fun hc5 => ?_) (fun hc5 => ?_)
            · skip
              have hpos : 0 < (uL need l b (kk : Int)) := of_decide_eq_true hc5
              have hss : (l.set kk (⟨l[kk].s, (uL need l b (kk : Int))⟩ : Pr)).set kk (⟨l[kk].s, (uL need l b (kk : Int)) - 1⟩ : Pr) = l.set kk (⟨l[kk].s, (uL need l b (kk : Int)) - 1⟩ : Pr) := List.set_set ..
              have v2 : Vld need (l.set kk (⟨l[kk].s, (uL need l b (kk : Int)) - 1⟩ : Pr)) := vld_set hV hk0 (by omega) (by omega)
              have e2 := (fill_no v2 hb.1 hb.2 (by rw [toPl_set]; have h := hw3 hpos; rw [hg1] at h; exact h)).1
              refine AWp.seq ?_
              refine AWp.region ?_
              refine AList.c 147 rfl rfl rfl (OpJ.move rfl rfl) ?_
              refine AList.c 148 rfl rfl rfl (OpJ.move rfl rfl) ?_
              refine AList.c 149 rfl rfl rfl (OpJ.fieldAddr rfl rfl fd35_0 rfl) ?_
              refine AList.c 150 rfl rfl rfl (OpJ.load rfl rfl ty3 rfl) ?_
              refine AList.c 151 rfl rfl rfl (OpJ.sub_ rfl rfl rfl (i64ok ?_)) ?_
              · omega
              refine AList.c 152 rfl rfl rfl (OpJ.indexRow rfl rfl rfl sl23 el23 (show kk < 0 + l.length by omega)) ?_
              refine AList.c 153 rfl rfl rfl (OpJ.fieldAddr rfl rfl fd46_1 rfl) ?_
              refine AList.c0 rfl rfl (OpJ.storeRow (f := Pr.cells) (c := 2) (k := kk) (j := 1) (xs := (l.set kk (⟨l[kk].s, (uL need l b (kk : Int))⟩ : Pr))) (z := (⟨l[kk].s, (uL need l b (kk : Int)) - 1⟩ : Pr)) (ws := [_]) rfl rfl rfl rfl rfl ty3 rfl rfl rfl (by omega) (fun _ => rfl) (by rw [List.length_set]; exact hk0) (Nat.le_of_ble_eq_true rfl) (by rw [List.getElem_set_self]; rfl)) ?_
              refine AList.nil ?_
              refine AWp.seq ?_
              refine AWp.region ?_
              rw [hss]
              refine AList.c 155 rfl rfl rfl (OpJ.move rfl rfl) ?_
              refine AList.c 156 rfl rfl rfl (OpJ.move rfl rfl) ?_
              refine AList.c 157 rfl rfl rfl (OpJ.move rfl rfl) ?_
              refine AList.c 158 rfl rfl rfl (OpJ.callBt 3 (fill_L need (l.set kk (⟨l[kk].s, (uL need l b (kk : Int)) - 1⟩ : Pr)) b (0 + l.length) (by rw [List.length_set]; omega) hnl (by omega)) rfl rfl rfl rfl (mapO.c brwP (mapO.c (brwRow rfl) (mapO.c brwP mapO.n))) rf16) ?_
              refine AList.c 154 rfl rfl rfl (OpJ.move rfl rfl) ?_
              refine AList.c 159 rfl rfl rfl (OpJ.extract rfl rfl rfl) ?_
              refine AList.c 160 rfl rfl rfl (OpJ.extract rfl rfl rfl) ?_
              refine AList.c 17 rfl rfl rfl (OpJ.assign rfl rfl) ?_
              refine AList.nil ?_
              refine AWp.seq ?_
              refine AWp.region ?_
              refine AList.c 161 rfl rfl rfl (OpJ.move rfl rfl) ?_
              refine AList.c 162 rfl rfl rfl (OpJ.neq rfl rfl rfl) ?_
              refine AList.nil ?_
              refine AWp.cond _ rfl (fun hc6 => ?_) (fun hc6 => ?_)
              · skip
                rw [e2] at hc6
                simp at hc6
              · skip
                refine AWp.skip ?_
                refine AWp.seq ?_
                refine AWp.regionDrawG 8 1 [3] [([], false), ([], false), ([], false), ([], false), ([3], true), ([], false), ([], false), ([], false)] mixed (by kernel_rfl) (by decide) (by kernel_rfl) rfl (by show [Blk.cells _ _, _, Blk.row (renL _ _) _] = _; rw [renL_pure]; rfl) ?_
                refine AQG.cons 163 rfl rfl rfl (fun _ => (OpJ.move rfl rfl)) rfl ?_
                refine AQG.cons 164 rfl rfl rfl (fun _ => (OpJ.move rfl rfl)) rfl ?_
                refine AQG.cons 165 rfl rfl rfl (fun _ => (OpJ.indexEl rfl rfl rfl sl23 el23 rfl (fun _ => rfl) (by decide) hk0)) rfl ?_
                refine AQG.cons 166 rfl rfl rfl (fun _ => (OpJ.load rfl rfl ty46 rfl)) rfl ?_
                refine AQG.lay (blk := .row [.p (.int .i64 l[kk].s), .p (.int .i64 l[kk].m)] 46) (v0 := .row 4 _) 167 3 rfl rfl rfl rfl rfl rfl rfl rfl (fun _ => (OpJ.buildOwn rfl slz23 (by decide) rfl rfl)) rfl rfl rfl ?_
                refine AQG.cons 168 rfl rfl rfl (fun _ => (OpJ.move rfl rfl)) rfl ?_
                refine AQG.cons 169 rfl rfl rfl (fun _ => (OpJ.move rfl rfl)) rfl ?_
                refine AQG.cons 170 rfl rfl rfl (fun _ => (OpJ.sliceIs (l := 0) (h := kk) (r := ((l.take kk).flatMap Pr.cells)) rfl rfl sl23 el23 rfl ⟨_, rfl⟩ (by omega) (by omega) (prTake l (by omega)))) rfl ?_
                refine AQG.nil ?_
                refine AList.c 171 rfl rfl rfl (OpJ.appendRow rfl rfl rfl slz23 sl23 rfl ?_ (asrc_is (xs := (l.take kk).flatMap Pr.cells) (n := kk - 0) (sz := 2) (prTake_len l (k := kk) (by omega))) (onePr _) by46 (by decide) ?_) ?_
                · rfl
                · show (2 * (1 + (kk - 0)) + 192) * 16 ≤ 281474976710656; omega
                refine AList.c 18 rfl rfl rfl (OpJ.assign rfl rfl) ?_
                refine AList.nil ?_
                refine AWp.seq ?_
                refine AWp.region ?_
                refine AList.c 172 rfl rfl rfl (OpJ.move rfl rfl) ?_
                refine AList.c 173 rfl rfl rfl (OpJ.move rfl rfl) ?_
                refine AList.c 174 rfl rfl rfl (OpJ.move rfl rfl) ?_
                refine AList.c 175 rfl rfl rfl (OpJ.add (m := ((kk + 1 : Nat) : Int)) rfl rfl rfl ((i64ok ?_).trans ?_)) ?_
                · omega
                · omega
                refine AList.c 176 rfl rfl rfl (OpJ.sliceIs (l := (kk + 1)) (h := l.length) (r := ((l.drop (kk + 1)).flatMap Pr.cells)) rfl rfl sl23 el23 ⟨_, rfl⟩ rfl (by omega) (by omega) (prDrop _ _)) ?_
                refine AList.c 177 rfl rfl rfl (OpJ.appendRow rfl rfl rfl slz23 sl23 rfl ?_ (asrc_is (xs := (l.drop (kk + 1)).flatMap Pr.cells) (n := l.length - (kk + 1)) (sz := 2) (prDrop_len _ _)) (onePr _) by46 (by decide) ?_) ?_
                · rw [List.length_append, List.length_map, prTake_len l (k := kk) (by omega)]; show 2 + (kk - 0) * 2 = (1 + (kk - 0)) * 2; omega
                · show (2 * (1 + (kk - 0) + (l.length - (kk + 1))) + 192) * 16 ≤ 281474976710656; omega
                refine AList.c 18 rfl rfl rfl (OpJ.assign rfl rfl) ?_
                refine AList.nil ?_
                refine AWp.seq ?_
                refine AWp.freeze 5 rfl (allP_cat3 [.int .i64 l[kk].s, .int .i64 l[kk].m] ((l.take kk).flatMap Pr.cells) ((l.drop (kk + 1)).flatMap Pr.cells)) ?_
                refine AWp.region ?_
                refine AList.c 179 rfl rfl rfl (OpJ.move rfl rfl) ?_
                refine AList.c 180 rfl rfl rfl (OpJ.move rfl rfl) ?_
                refine AList.c 181 rfl rfl rfl (OpJ.move rfl rfl) ?_
                refine AList.c 182 rfl rfl rfl (OpJ.callP (fill_front need l b kk hk0 hnl hll) rfl rfl rfl rfl rf16) ?_
                refine AList.c 178 rfl rfl rfl (OpJ.move rfl rfl) ?_
                refine AList.c 183 rfl rfl rfl (OpJ.extract rfl rfl rfl) ?_
                refine AList.c 184 rfl rfl rfl (OpJ.extract rfl rfl rfl) ?_
                refine AList.c 19 rfl rfl rfl (OpJ.assign rfl rfl) ?_
                refine AList.c 20 rfl rfl rfl (OpJ.assign rfl rfl) ?_
                refine AList.nil ?_
                refine AWp.seq ?_
                refine AWp.region ?_
                refine AList.c 186 rfl rfl rfl (OpJ.move rfl rfl) ?_
                refine AList.c 187 rfl rfl rfl (OpJ.move rfl rfl) ?_
                refine AList.c 188 rfl rfl rfl (OpJ.move rfl rfl) ?_
                refine AList.c 189 rfl rfl rfl (OpJ.move rfl rfl) ?_
                refine AList.c 190 rfl rfl rfl (OpJ.callP (good_front b kk hk0 hV hb.1 hb.2 (fR need (frontP l kk) b) hAf) rfl rfl rfl rfl rf24) ?_
                refine AList.c 185 rfl rfl rfl (OpJ.move rfl rfl) ?_
                refine AList.c 191 rfl rfl rfl (OpJ.extract rfl rfl rfl) ?_
                refine AList.c 192 rfl rfl rfl (OpJ.extract rfl rfl rfl) ?_
                refine AList.c 21 rfl rfl rfl (OpJ.assign rfl rfl) ?_
                refine AList.c 14 rfl rfl rfl (OpJ.assign rfl rfl) ?_
                refine AList.nil ?_
                refine AWp.seq ?_
                refine AWp.regionDraw 17 mixed (by kernel_rfl) (by decide) ?_
                refine AQuiet.cons 193 rfl rfl rfl (OpJ.move rfl rfl) ?_
                refine AQuiet.cons 194 rfl rfl rfl (OpJ.eql rfl rfl rfl) ?_
                refine AQuiet.cons 195 rfl rfl rfl (OpJ.move rfl rfl) ?_
                refine AQuiet.guard 196 195 rfl rfl rfl rfl rfl rfl rfl [(14, _)] (fun h => And.intro (.inl rfl) (trivial)) (fun h => (OpJ.move rfl rfl)) ?_
                refine AQuiet.cons 197 rfl rfl rfl (OpJ.and_ rfl rfl rfl ?_) ?_
                · first | (intro h; rw [h]; rfl) | (intro h; simp_all)
                refine AQuiet.cons 198 rfl rfl rfl (OpJ.move rfl rfl) ?_
                refine AQuiet.guard 199 198 rfl rfl rfl rfl rfl rfl rfl [(21, _)] (fun h => And.intro (.inl rfl) (trivial)) (fun h => (OpJ.move rfl rfl)) ?_
                refine AQuiet.guard 200 198 rfl rfl rfl rfl rfl rfl rfl [(199, _)] (fun h => And.intro (.inr ⟨_, rfl, h⟩) (trivial)) (fun h => (OpJ.indexEl (k := 0) rfl rfl rfl sl22 el22 rfl (fun _ => rfl) (by decide) hkf)) ?_
                refine AQuiet.guard 201 198 rfl rfl rfl rfl rfl rfl rfl [(200, _)] (fun h => And.intro (.inr ⟨_, rfl, h⟩) (trivial)) (fun h => (OpJ.load rfl rfl ty3 rfl)) ?_
                refine AQuiet.guard 202 198 rfl rfl rfl rfl rfl rfl rfl [(9, _)] (fun h => And.intro (.inl rfl) (trivial)) (fun h => (OpJ.fieldAddr rfl rfl fd35_1 rfl)) ?_
                refine AQuiet.guard 203 198 rfl rfl rfl rfl rfl rfl rfl [(202, _)] (fun h => And.intro (.inr ⟨_, rfl, h⟩) (trivial)) (fun h => (OpJ.load rfl rfl ty3 rfl)) ?_
                refine AQuiet.guard 204 198 rfl rfl rfl rfl rfl rfl rfl [(201, _), (203, _)] (fun h => And.intro (.inr ⟨_, rfl, h⟩) (And.intro (.inr ⟨_, rfl, h⟩) (trivial))) (fun h => (OpJ.eql rfl rfl rfl)) ?_
                refine AQuiet.cons 205 rfl rfl rfl (OpJ.and_ rfl rfl rfl ?_) ?_
                · first | (intro h; rw [h]; rfl) | (intro h; simp_all)
                refine AQuiet.cons 206 rfl rfl rfl (OpJ.move rfl rfl) ?_
                refine AQuiet.guard 207 206 rfl rfl rfl rfl rfl rfl rfl [] (fun h => trivial) (fun h => (OpJ.callP (awake_ok) rfl rfl rfl rfl rf11)) ?_
                refine AQuiet.cons 208 rfl rfl rfl (OpJ.and_ rfl rfl rfl ?_) ?_
                · first | (intro h; rw [h]; rfl) | (intro h; simp_all)
                refine AQuiet.cons 8 rfl rfl rfl (OpJ.assign rfl rfl) ?_
                refine AQuiet.nil ?_
                refine AList.nil ?_
                refine AWp.ret ?_
                refine Fin.oneE rfl rfl ?_
                rw [hfEf, huf, hfs]
                simp
            · skip
              refine AWp.skip ?_
              refine AWp.seq ?_
              refine AWp.regionDrawG 8 1 [3] [([], false), ([], false), ([], false), ([], false), ([3], true), ([], false), ([], false), ([], false)] mixed (by kernel_rfl) (by decide) (by kernel_rfl) rfl (by show [Blk.cells _ _, _, Blk.row (renL _ _) _] = _; rw [renL_pure]; rfl) ?_
              refine AQG.cons 163 rfl rfl rfl (fun _ => (OpJ.move rfl rfl)) rfl ?_
              refine AQG.cons 164 rfl rfl rfl (fun _ => (OpJ.move rfl rfl)) rfl ?_
              refine AQG.cons 165 rfl rfl rfl (fun _ => (OpJ.indexEl rfl rfl rfl sl23 el23 rfl (fun _ => rfl) (by decide) hk0)) rfl ?_
              refine AQG.cons 166 rfl rfl rfl (fun _ => (OpJ.load rfl rfl ty46 rfl)) rfl ?_
              refine AQG.lay (blk := .row [.p (.int .i64 l[kk].s), .p (.int .i64 l[kk].m)] 46) (v0 := .row 4 _) 167 3 rfl rfl rfl rfl rfl rfl rfl rfl (fun _ => (OpJ.buildOwn rfl slz23 (by decide) rfl rfl)) rfl rfl rfl ?_
              refine AQG.cons 168 rfl rfl rfl (fun _ => (OpJ.move rfl rfl)) rfl ?_
              refine AQG.cons 169 rfl rfl rfl (fun _ => (OpJ.move rfl rfl)) rfl ?_
              refine AQG.cons 170 rfl rfl rfl (fun _ => (OpJ.sliceIs (l := 0) (h := kk) (r := ((l.take kk).flatMap Pr.cells)) rfl rfl sl23 el23 rfl ⟨_, rfl⟩ (by omega) (by omega) (prTake l (by omega)))) rfl ?_
              refine AQG.nil ?_
              refine AList.c 171 rfl rfl rfl (OpJ.appendRow rfl rfl rfl slz23 sl23 rfl ?_ (asrc_is (xs := (l.take kk).flatMap Pr.cells) (n := kk - 0) (sz := 2) (prTake_len l (k := kk) (by omega))) (onePr _) by46 (by decide) ?_) ?_
              · rfl
              · show (2 * (1 + (kk - 0)) + 192) * 16 ≤ 281474976710656; omega
              refine AList.c 18 rfl rfl rfl (OpJ.assign rfl rfl) ?_
              refine AList.nil ?_
              refine AWp.seq ?_
              refine AWp.region ?_
              refine AList.c 172 rfl rfl rfl (OpJ.move rfl rfl) ?_
              refine AList.c 173 rfl rfl rfl (OpJ.move rfl rfl) ?_
              refine AList.c 174 rfl rfl rfl (OpJ.move rfl rfl) ?_
              refine AList.c 175 rfl rfl rfl (OpJ.add (m := ((kk + 1 : Nat) : Int)) rfl rfl rfl ((i64ok ?_).trans ?_)) ?_
              · omega
              · omega
              refine AList.c 176 rfl rfl rfl (OpJ.sliceIs (l := (kk + 1)) (h := l.length) (r := ((l.drop (kk + 1)).flatMap Pr.cells)) rfl rfl sl23 el23 ⟨_, rfl⟩ rfl (by omega) (by omega) (prDrop _ _)) ?_
              refine AList.c 177 rfl rfl rfl (OpJ.appendRow rfl rfl rfl slz23 sl23 rfl ?_ (asrc_is (xs := (l.drop (kk + 1)).flatMap Pr.cells) (n := l.length - (kk + 1)) (sz := 2) (prDrop_len _ _)) (onePr _) by46 (by decide) ?_) ?_
              · rw [List.length_append, List.length_map, prTake_len l (k := kk) (by omega)]; show 2 + (kk - 0) * 2 = (1 + (kk - 0)) * 2; omega
              · show (2 * (1 + (kk - 0) + (l.length - (kk + 1))) + 192) * 16 ≤ 281474976710656; omega
              refine AList.c 18 rfl rfl rfl (OpJ.assign rfl rfl) ?_
              refine AList.nil ?_
              refine AWp.seq ?_
              refine AWp.freeze 5 rfl (allP_cat3 [.int .i64 l[kk].s, .int .i64 l[kk].m] ((l.take kk).flatMap Pr.cells) ((l.drop (kk + 1)).flatMap Pr.cells)) ?_
              refine AWp.region ?_
              refine AList.c 179 rfl rfl rfl (OpJ.move rfl rfl) ?_
              refine AList.c 180 rfl rfl rfl (OpJ.move rfl rfl) ?_
              refine AList.c 181 rfl rfl rfl (OpJ.move rfl rfl) ?_
              refine AList.c 182 rfl rfl rfl (OpJ.callP (fill_front need l b kk hk0 hnl hll) rfl rfl rfl rfl rf16) ?_
              refine AList.c 178 rfl rfl rfl (OpJ.move rfl rfl) ?_
              refine AList.c 183 rfl rfl rfl (OpJ.extract rfl rfl rfl) ?_
              refine AList.c 184 rfl rfl rfl (OpJ.extract rfl rfl rfl) ?_
              refine AList.c 19 rfl rfl rfl (OpJ.assign rfl rfl) ?_
              refine AList.c 20 rfl rfl rfl (OpJ.assign rfl rfl) ?_
              refine AList.nil ?_
              refine AWp.seq ?_
              refine AWp.region ?_
              refine AList.c 186 rfl rfl rfl (OpJ.move rfl rfl) ?_
              refine AList.c 187 rfl rfl rfl (OpJ.move rfl rfl) ?_
              refine AList.c 188 rfl rfl rfl (OpJ.move rfl rfl) ?_
              refine AList.c 189 rfl rfl rfl (OpJ.move rfl rfl) ?_
              refine AList.c 190 rfl rfl rfl (OpJ.callP (good_front b kk hk0 hV hb.1 hb.2 (fR need (frontP l kk) b) hAf) rfl rfl rfl rfl rf24) ?_
              refine AList.c 185 rfl rfl rfl (OpJ.move rfl rfl) ?_
              refine AList.c 191 rfl rfl rfl (OpJ.extract rfl rfl rfl) ?_
              refine AList.c 192 rfl rfl rfl (OpJ.extract rfl rfl rfl) ?_
              refine AList.c 21 rfl rfl rfl (OpJ.assign rfl rfl) ?_
              refine AList.c 14 rfl rfl rfl (OpJ.assign rfl rfl) ?_
              refine AList.nil ?_
              refine AWp.seq ?_
              refine AWp.regionDraw 17 mixed (by kernel_rfl) (by decide) ?_
              refine AQuiet.cons 193 rfl rfl rfl (OpJ.move rfl rfl) ?_
              refine AQuiet.cons 194 rfl rfl rfl (OpJ.eql rfl rfl rfl) ?_
              refine AQuiet.cons 195 rfl rfl rfl (OpJ.move rfl rfl) ?_
              refine AQuiet.guard 196 195 rfl rfl rfl rfl rfl rfl rfl [(14, _)] (fun h => And.intro (.inl rfl) (trivial)) (fun h => (OpJ.move rfl rfl)) ?_
              refine AQuiet.cons 197 rfl rfl rfl (OpJ.and_ rfl rfl rfl ?_) ?_
              · first | (intro h; rw [h]; rfl) | (intro h; simp_all)
              refine AQuiet.cons 198 rfl rfl rfl (OpJ.move rfl rfl) ?_
              refine AQuiet.guard 199 198 rfl rfl rfl rfl rfl rfl rfl [(21, _)] (fun h => And.intro (.inl rfl) (trivial)) (fun h => (OpJ.move rfl rfl)) ?_
              refine AQuiet.guard 200 198 rfl rfl rfl rfl rfl rfl rfl [(199, _)] (fun h => And.intro (.inr ⟨_, rfl, h⟩) (trivial)) (fun h => (OpJ.indexEl (k := 0) rfl rfl rfl sl22 el22 rfl (fun _ => rfl) (by decide) hkf)) ?_
              refine AQuiet.guard 201 198 rfl rfl rfl rfl rfl rfl rfl [(200, _)] (fun h => And.intro (.inr ⟨_, rfl, h⟩) (trivial)) (fun h => (OpJ.load rfl rfl ty3 rfl)) ?_
              refine AQuiet.guard 202 198 rfl rfl rfl rfl rfl rfl rfl [(9, _)] (fun h => And.intro (.inl rfl) (trivial)) (fun h => (OpJ.fieldAddr rfl rfl fd35_1 rfl)) ?_
              refine AQuiet.guard 203 198 rfl rfl rfl rfl rfl rfl rfl [(202, _)] (fun h => And.intro (.inr ⟨_, rfl, h⟩) (trivial)) (fun h => (OpJ.load rfl rfl ty3 rfl)) ?_
              refine AQuiet.guard 204 198 rfl rfl rfl rfl rfl rfl rfl [(201, _), (203, _)] (fun h => And.intro (.inr ⟨_, rfl, h⟩) (And.intro (.inr ⟨_, rfl, h⟩) (trivial))) (fun h => (OpJ.eql rfl rfl rfl)) ?_
              refine AQuiet.cons 205 rfl rfl rfl (OpJ.and_ rfl rfl rfl ?_) ?_
              · first | (intro h; rw [h]; rfl) | (intro h; simp_all)
              refine AQuiet.cons 206 rfl rfl rfl (OpJ.move rfl rfl) ?_
              refine AQuiet.guard 207 206 rfl rfl rfl rfl rfl rfl rfl [] (fun h => trivial) (fun h => (OpJ.callP (awake_ok) rfl rfl rfl rfl rf11)) ?_
              refine AQuiet.cons 208 rfl rfl rfl (OpJ.and_ rfl rfl rfl ?_) ?_
              · first | (intro h; rw [h]; rfl) | (intro h; simp_all)
              refine AQuiet.cons 8 rfl rfl rfl (OpJ.assign rfl rfl) ?_
              refine AQuiet.nil ?_
              refine AList.nil ?_
              refine AWp.ret ?_
              refine Fin.oneE rfl rfl ?_
              rw [hfEf, huf, hfs]
              simp
theorem boxUsed_law {x0 x1 x2 x3 : List PV} (h0 : TyL [.sl [.leaf (.int .i64)]] x0) (h1 : TyL [.sl [.leaf (.int .i64), .leaf (.int .i64)]] x1) (h2 : TyL [.leaf (.int .i64)] x2) (h3 : TyL [.leaf (.int .i64)] x3) : Pure Try.prog 7 [argP false x0, argP false x1, argP false x2, argP false x3] (.bool true) := by
  obtain ⟨need, rfl, _⟩ := sl_of (fun _ => i1_of) h0
  obtain ⟨l, rfl, _⟩ := sl_of (fun _ => pr_of) h1
  obtain ⟨b, rfl⟩ := int_of h2
  obtain ⟨k, rfl⟩ := int_of h3
  exact BoxUsed_ok need l b k
end Go.Proofs.Ytpamkihpffoflaa
