/-
  The law BoxMore.
-/
import Derived.Test.YtpamkihpffoflaaBxFactsG
import Derived.Test.YtpamkihpffoflaaBx23
import Derived.Test.YtpamkihpffoflaaBxW
set_option linter.unusedVariables false
set_option maxRecDepth 100000
set_option maxHeartbeats 4000000
set_option linter.unusedSimpArgs false
namespace Go.Proofs.Ytpamkihpffoflaa
open Go.AF
theorem most_parts (need : List Int) (ps : List Pl) (kk : Nat) (pt : Nat) (hnl : need.length ≤ bigN) (hll : ps.length < 8) {hk : kk < ps.length} : Pure Try.prog 12 [intsV need, .is ((ps.set kk ⟨ps[kk].s, ps[kk].m - (pt : Int)⟩).flatMap Pl.cells ++ [.int .i64 (ps[kk].s : Int), .int .i64 (pt : Int)]) (0 + ps.length + 1)] (.tuple [.int .i64 (mN need (prOf (ps.set kk ⟨ps[kk].s, ps[kk].m - (pt : Int)⟩ ++ [⟨ps[kk].s, (pt : Int)⟩]))), .int .i64 (mP need (prOf (ps.set kk ⟨ps[kk].s, ps[kk].m - (pt : Int)⟩ ++ [⟨ps[kk].s, (pt : Int)⟩]))), .int .i64 (mE need (prOf (ps.set kk ⟨ps[kk].s, ps[kk].m - (pt : Int)⟩ ++ [⟨ps[kk].s, (pt : Int)⟩])))]) := by
  have h := most_LR need (ps.set kk ⟨ps[kk].s, ps[kk].m - (pt : Int)⟩ ++ [⟨ps[kk].s, (pt : Int)⟩]) need.length (0 + ps.length + 1) rfl (by simp) hnl (by unfold bigN; omega)
  rw [List.flatMap_append] at h
  exact h
theorem wide_le (s j : Nat) (m : Int) (hm : 0 ≤ m) {t : Nat} : (if s &&& t = 0 then 0 else m) ≤ (if (s ||| 1 * 2 ^ j) &&& t = 0 then 0 else m) := by
  by_cases h : (s ||| 1 * 2 ^ j) &&& t = 0
  · rw [Nat.and_comm, meets_or, Nat.and_comm t s] at h
    rw [if_pos h.1]
    split
    · exact Int.le_refl _
    · exact hm
  · rw [if_neg h]
    split
    · exact hm
    · exact Int.le_refl _
theorem BoxMore_ok (need : List Int) (l : List Pr) (tu mo : Nat) (htu : tu ≤ 255) (hmo : mo ≤ 65535) : Pure Try.prog 9 [intsV need, rawV l, .int .u8 (tu : Int), .int .u16 (mo : Int)] (.bool true) := by
  refine Pure.start (N := 272) Try.func9 rfl rfl (Nat.le_of_ble_eq_true rfl) ?_
  refine AWp.seq ?_
  refine AWp.region ?_
  refine AList.c 8 rfl rfl rfl (OpJ.assign rfl rfl) ?_
  refine AList.nil ?_
  refine AWp.seq ?_
  refine AWp.seq ?_
  refine AWp.region ?_
  refine AList.c 37 rfl rfl rfl (OpJ.move rfl rfl) ?_
  refine AList.c 38 rfl rfl rfl (OpJ.move rfl rfl) ?_
  refine AList.c 39 rfl rfl rfl (OpJ.callP (large_ok need l) rfl rfl rfl rfl rf10) ?_
  refine AList.c 40 rfl rfl rfl (OpJ.move rfl rfl) ?_
  refine AList.g 41 40 rfl rfl rfl rfl rfl rfl rfl [(1, _)] (fun h => And.intro (.inl rfl) (trivial)) (fun h => (OpJ.move rfl rfl)) ?_
  refine AList.g 42 40 rfl rfl rfl rfl rfl rfl rfl [(41, _)] (fun h => And.intro (.inr ⟨_, rfl, h⟩) (trivial)) (fun h => (OpJ.lenSlice rfl rfl sl23 rfl)) ?_
  refine AList.g 43 40 rfl rfl rfl rfl rfl rfl rfl [(42, _)] (fun h => And.intro (.inr ⟨_, rfl, h⟩) (trivial)) (fun h => (OpJ.eql rfl rfl rfl)) ?_
  refine AList.c 44 rfl rfl rfl (OpJ.or_ rfl rfl rfl ?_) ?_
  · first | (intro h; rw [h]; rfl) | (intro h; simp_all)
  refine AList.nil ?_
  refine AWp.cond _ rfl (fun hc0 => ?_) (fun hc0 => ?_)
  · skip
    refine AWp.seq ?_
    refine AWp.region ?_
    refine AList.c 45 rfl rfl rfl (OpJ.callP (awake_ok) rfl rfl rfl rfl rf11) ?_
    refine AList.c 8 rfl rfl rfl (OpJ.assign rfl rfl) ?_
    refine AList.nil ?_
    refine AWp.ret ?_
    refine Fin.oneE rfl rfl ?_
    rfl
  · skip
    simp only [Bool.or_eq_false_iff, decide_eq_false_iff_not] at hc0
    have hnl : need.length ≤ bigN := by unfold bigN; omega
    have hll : l.length ≤ bigN := by unfold bigN; omega
    have hl0 : 0 < l.length := by omega
    refine AWp.skip ?_
    refine AWp.seq ?_
    refine AWp.region ?_
    refine AList.c 47 rfl rfl rfl (OpJ.move rfl rfl) ?_
    refine AList.c 48 rfl rfl rfl (OpJ.move rfl rfl) ?_
    refine AList.c 49 rfl rfl rfl (OpJ.callP (most_n need l hnl hll) rfl rfl rfl rfl rf12) ?_
    refine AList.c 46 rfl rfl rfl (OpJ.move rfl rfl) ?_
    refine AList.c 50 rfl rfl rfl (OpJ.extract rfl rfl rfl) ?_
    refine AList.c 51 rfl rfl rfl (OpJ.extract rfl rfl rfl) ?_
    refine AList.c 52 rfl rfl rfl (OpJ.extract rfl rfl rfl) ?_
    refine AList.c 9 rfl rfl rfl (OpJ.assign rfl rfl) ?_
    refine AList.c 10 rfl rfl rfl (OpJ.assign rfl rfl) ?_
    refine AList.c 11 rfl rfl rfl (OpJ.assign rfl rfl) ?_
    refine AList.nil ?_
    refine AWp.seq ?_
    refine AWp.seq ?_
    refine AWp.region ?_
    refine AList.c 53 rfl rfl rfl (OpJ.move rfl rfl) ?_
    refine AList.c 54 rfl rfl rfl (OpJ.neq rfl rfl rfl) ?_
    refine AList.c 55 rfl rfl rfl (OpJ.move rfl rfl) ?_
    refine AList.g 56 55 rfl rfl rfl rfl rfl rfl rfl [(0, _)] (fun h => And.intro (.inl rfl) (trivial)) (fun h => (OpJ.move rfl rfl)) ?_
    refine AList.g 57 55 rfl rfl rfl rfl rfl rfl rfl [(1, _)] (fun h => And.intro (.inl rfl) (trivial)) (fun h => (OpJ.move rfl rfl)) ?_
    refine AList.g 58 55 rfl rfl rfl rfl rfl rfl rfl [(56, _), (57, _)] (fun h => And.intro (.inr ⟨_, rfl, h⟩) (And.intro (.inr ⟨_, rfl, h⟩) (trivial))) (fun h => (OpJ.callP (rvalid_ok need l hnl hll) rfl rfl rfl rfl rf21)) ?_
    refine AList.g 59 55 rfl rfl rfl rfl rfl rfl rfl [(58, _)] (fun h => And.intro (.inr ⟨_, rfl, h⟩) (trivial)) (fun h => (OpJ.not_ rfl rfl)) ?_
    refine AList.c 60 rfl rfl rfl (OpJ.or_ rfl rfl rfl ?_) ?_
    · first | (intro h; rw [h]; rfl) | (intro h; simp_all)
    refine AList.nil ?_
    refine AWp.cond _ rfl (fun hc1 => ?_) (fun hc1 => ?_)
    · skip
      have hV : ¬ Vld need l := fun h => by
        rw [most_ok h, decide_eq_true h] at hc1; simp at hc1
      refine AWp.seq ?_
      refine AWp.region ?_
      refine AList.c 61 rfl rfl rfl (OpJ.move rfl rfl) ?_
      refine AList.c 62 rfl rfl rfl (OpJ.eql rfl rfl rfl) ?_
      refine AList.c 63 rfl rfl rfl (OpJ.move rfl rfl) ?_
      refine AList.g 64 63 rfl rfl rfl rfl rfl rfl rfl [(9, _)] (fun h => And.intro (.inl rfl) (trivial)) (fun h => (OpJ.move rfl rfl)) ?_
      refine AList.g 65 63 rfl rfl rfl rfl rfl rfl rfl [(64, _)] (fun h => And.intro (.inr ⟨_, rfl, h⟩) (trivial)) (fun h => (OpJ.eql rfl rfl rfl)) ?_
      refine AList.c 66 rfl rfl rfl (OpJ.and_ rfl rfl rfl ?_) ?_
      · first | (intro h; rw [h]; rfl) | (intro h; simp_all)
      refine AList.c 67 rfl rfl rfl (OpJ.move rfl rfl) ?_
      refine AList.g 68 67 rfl rfl rfl rfl rfl rfl rfl [] (fun h => trivial) (fun h => (OpJ.callP (awake_ok) rfl rfl rfl rfl rf11)) ?_
      refine AList.c 69 rfl rfl rfl (OpJ.and_ rfl rfl rfl ?_) ?_
      · first | (intro h; rw [h]; rfl) | (intro h; simp_all)
      refine AList.c 8 rfl rfl rfl (OpJ.assign rfl rfl) ?_
      refine AList.nil ?_
      refine AWp.ret ?_
      refine Fin.oneE rfl rfl ?_
      obtain ⟨a, c, d⟩ := most_no hV
      rw [a, d]
      rfl
    · skip
      have hV : Vld need l := Classical.byContradiction fun h => by
        rw [decide_eq_false h] at hc1; simp at hc1
      have hn : okN need := hV.2.2.1
      have h8 := hV.1.2
      have h0 := hV.1.1
      have hL := toPl_ok hV
      have hp := pow8 h8
      have hp1 := pow_pos' need.length
      have hA : allS need.length = 2 ^ need.length - 1 := rfl
      have hl8 := hL.1
      have htl := toPl_len l
      have hbn : (8 : Nat) ≤ bigN := by unfold bigN; omega
      obtain ⟨q, _, hmN, _, _, hq8, _⟩ := most_yes hV
      rw [toPl_raw hV]
      obtain ⟨kk, hkk⟩ : ∃ kk, kk = tu % (toPl l).length := ⟨_, rfl⟩
      have hk0 : kk < (toPl l).length := by rw [hkk]; exact Nat.mod_lt _ (by omega)
      have hpk := hL.2 (toPl l)[kk] (List.getElem_mem _)
      obtain ⟨jj, hjj⟩ : ∃ jj, jj = tu / 8 % need.length := ⟨_, rfl⟩
      have hj0 : jj < need.length := by rw [hjj]; exact Nat.mod_lt _ (by omega)
      have hpj : 2 ^ jj < 2 ^ need.length := Nat.pow_lt_pow_right (by omega) hj0
      have hor : (toPl l)[kk].s ||| 1 * 2 ^ jj < 2 ^ need.length := Nat.or_lt_two_pow hpk.1 (by omega)
      have hT0 : 0 < (toPl l).length := by omega
      refine AWp.skip ?_
      refine AWp.seq ?_
      refine AWp.region ?_
      refine AList.c 70 rfl rfl rfl (OpJ.move rfl rfl) ?_
      refine AList.c 71 rfl rfl rfl (OpJ.convInt rfl rfl (by rw [un5]; rfl) un3 (i64ok ?_)) ?_
      · omega
      refine AList.c 72 rfl rfl rfl (OpJ.move rfl rfl) ?_
      refine AList.c 73 rfl rfl rfl (OpJ.lenSlice rfl rfl sl23 rfl) ?_
      refine AList.c 74 rfl rfl rfl (OpJ.rem (m := (kk : Int)) rfl rfl rfl ?_ ?_) ?_
      · omega
      · rw [hkk]; exact tmodN _ _
      refine AList.c 75 rfl rfl rfl (OpJ.move rfl rfl) ?_
      refine AList.c 76 rfl rfl rfl (OpJ.lenSlice rfl rfl sl22 rfl) ?_
      refine AList.c 12 rfl rfl rfl (OpJ.assign rfl rfl) ?_
      refine AList.c 13 rfl rfl rfl (OpJ.assign rfl rfl) ?_
      refine AList.nil ?_
      refine AWp.seq ?_
      refine AWp.region ?_
      refine AList.c 77 rfl rfl rfl (OpJ.buildOwn rfl slz23 (by decide) rfl rfl) ?_
      refine AList.c 78 rfl rfl rfl (OpJ.move rfl rfl) ?_
      refine AList.c 79 rfl rfl rfl (OpJ.appendRow rfl rfl rfl slz23 sl23 rfl ?_ (asrc_is (xs := ((toPl l).flatMap Pl.cells)) (n := (toPl l).length) (sz := 2) (flat_len (c := 2) (fun _ => rfl) (toPl l))) (onePl _) by46 (by decide) ?_) ?_
      · rfl
      · show (2 * (0 + (toPl l).length) + 192) * 16 ≤ 281474976710656; omega
      refine AList.c 80 rfl rfl rfl (OpJ.buildOwn rfl slz23 (by decide) rfl rfl) ?_
      refine AList.c 81 rfl rfl rfl (OpJ.move rfl rfl) ?_
      refine AList.c 82 rfl rfl rfl (OpJ.appendRow rfl rfl rfl slz23 sl23 rfl ?_ (asrc_is (xs := ((toPl l).flatMap Pl.cells)) (n := (toPl l).length) (sz := 2) (flat_len (c := 2) (fun _ => rfl) (toPl l))) (onePl _) by46 (by decide) ?_) ?_
      · rfl
      · show (2 * (0 + (toPl l).length) + 192) * 16 ≤ 281474976710656; omega
      refine AList.c 14 rfl rfl rfl (OpJ.assign rfl rfl) ?_
      refine AList.c 15 rfl rfl rfl (OpJ.assign rfl rfl) ?_
      refine AList.nil ?_
      refine AWp.seq ?_
      refine AWp.region ?_
      refine AList.c 83 rfl rfl rfl (OpJ.move rfl rfl) ?_
      refine AList.c 84 rfl rfl rfl (OpJ.move rfl rfl) ?_
      refine AList.c 85 rfl rfl rfl (OpJ.move rfl rfl) ?_
      refine AList.c 86 rfl rfl rfl (OpJ.move rfl rfl) ?_
      refine AList.c 87 rfl rfl rfl (OpJ.indexRow rfl rfl rfl sl23 el23 (show kk < 0 + (toPl l).length by omega)) ?_
      refine AList.c 88 rfl rfl rfl (OpJ.fieldAddr rfl rfl fd46_1 rfl) ?_
      refine AList.c 89 rfl rfl rfl (OpJ.loadFlat (f := Pl.cells) (c := 2) (k := kk) (j := 1) (xs := (toPl l)) rfl rfl ty3 rfl rfl (by omega) (fun _ => rfl) hk0 (by decide) (show _ = PV.int .i64 (toPl l)[kk].m from rfl)) ?_
      refine AList.c 90 rfl rfl rfl (OpJ.move rfl rfl) ?_
      refine AList.c 91 rfl rfl rfl (OpJ.convInt rfl rfl (by rw [un50]; rfl) un3 (i64ok ?_)) ?_
      · omega
      refine AList.c 92 rfl rfl rfl (OpJ.add rfl rfl rfl (i64ok ?_)) ?_
      · omega
      refine AList.c 93 rfl rfl rfl (OpJ.min2 rfl rfl rfl) ?_
      refine AList.c 94 rfl rfl rfl (OpJ.indexRow rfl rfl rfl sl23 el23 (show kk < 0 + (toPl l).length by omega)) ?_
      refine AList.c 95 rfl rfl rfl (OpJ.fieldAddr rfl rfl fd46_1 rfl) ?_
      refine AList.c0 rfl rfl (OpJ.storeRow (f := Pl.cells) (c := 2) (k := kk) (j := 1) (xs := (toPl l)) (z := (⟨(toPl l)[kk].s, min 1048576 ((toPl l)[kk].m + (mo : Int))⟩ : Pl)) (ws := [_]) rfl rfl rfl rfl rfl ty3 rfl rfl rfl (by omega) (fun _ => rfl) hk0 (Nat.le_of_ble_eq_true rfl) rfl) ?_
      refine AList.nil ?_
      refine AWp.seq ?_
      refine AWp.regionDraw 16 mixed (by kernel_rfl) (by decide) ?_
      refine AQuiet.cons 96 rfl rfl rfl (OpJ.move rfl rfl) ?_
      refine AQuiet.cons 97 rfl rfl rfl (OpJ.move rfl rfl) ?_
      refine AQuiet.cons 98 rfl rfl rfl (OpJ.move rfl rfl) ?_
      refine AQuiet.cons 99 rfl rfl rfl (OpJ.move rfl rfl) ?_
      refine AQuiet.cons 100 rfl rfl rfl (OpJ.indexRow rfl rfl rfl sl23 el23 (show kk < 0 + (toPl l).length by omega)) ?_
      refine AQuiet.cons 101 rfl rfl rfl (OpJ.fieldAddr rfl rfl fd46_0 rfl) ?_
      refine AQuiet.cons 102 rfl rfl rfl (OpJ.loadFlat (f := Pl.cells) (c := 2) (k := kk) (j := 0) (xs := (toPl l)) rfl rfl ty3 rfl rfl (by omega) (fun _ => rfl) hk0 (by decide) (show _ = PV.int .i64 (((toPl l)[kk].s : Nat) : Int) from rfl)) ?_
      refine AQuiet.cons 103 rfl rfl rfl (OpJ.move rfl rfl) ?_
      refine AQuiet.cons 104 rfl rfl rfl (OpJ.convInt rfl rfl (by rw [un5]; rfl) un3 (i64ok ?_)) ?_
      · omega
      refine AQuiet.cons 105 rfl rfl rfl (OpJ.quo (m := ((tu / 8 : Nat) : Int)) rfl rfl rfl ?_ ((i64ok ?_).trans ?_)) ?_
      · decide
      · show _ ≤ Int.tdiv (tu : Int) 8 ∧ Int.tdiv (tu : Int) 8 ≤ _; rw [show Int.tdiv (tu : Int) 8 = ((tu / 8 : Nat) : Int) from rfl]; omega
      · rfl
      refine AQuiet.cons 106 rfl rfl rfl (OpJ.move rfl rfl) ?_
      refine AQuiet.cons 107 rfl rfl rfl (OpJ.rem (m := (jj : Int)) rfl rfl rfl ?_ ?_) ?_
      · omega
      · rw [hjj]; exact tmodN _ _
      refine AQuiet.cons 108 rfl rfl rfl (OpJ.shlN 1 jj rfl rfl rfl (by show _ ≤ (64 : Nat); omega) (show ((1 * 2 ^ jj : Nat) : Int) ≤ 9223372036854775807 by omega)) ?_
      refine AQuiet.cons 109 rfl rfl rfl (OpJ.orN (toPl l)[kk].s (1 * 2 ^ jj) rfl rfl rfl (by show _ ≤ (9223372036854775807 : Int); omega) (by show _ ≤ (9223372036854775807 : Int); omega) (by show _ ≤ (9223372036854775807 : Int); omega)) ?_
      refine AQuiet.cons 110 rfl rfl rfl (OpJ.indexRow rfl rfl rfl sl23 el23 (show kk < 0 + (toPl l).length by omega)) ?_
      refine AQuiet.cons 111 rfl rfl rfl (OpJ.fieldAddr rfl rfl fd46_0 rfl) ?_
      refine AQuiet.nil ?_
      refine AList.c0 rfl rfl (OpJ.storeRow (f := Pl.cells) (c := 2) (k := kk) (j := 0) (xs := (toPl l)) (z := (⟨(toPl l)[kk].s ||| 1 * 2 ^ jj, (toPl l)[kk].m⟩ : Pl)) (ws := [_]) rfl rfl rfl rfl rfl ty3 rfl rfl rfl (by omega) (fun _ => rfl) hk0 (Nat.le_of_ble_eq_true rfl) rfl) ?_
      refine AList.nil ?_
      refine AWp.seq ?_
      refine AWp.region ?_
      refine AList.c 16 rfl rfl rfl (OpJ.assign rfl rfl) ?_
      refine AList.nil ?_
      refine AWp.seq ?_
      refine AWp.region ?_
      refine AList.c 112 rfl rfl rfl (OpJ.move rfl rfl) ?_
      refine AList.c 113 rfl rfl rfl (OpJ.makeSlice (n := need.length) (c := need.length) rfl rfl rfl slz22 by3 (by decide) (Nat.le_refl _) (by omega)) ?_
      rw [repl_i1, show List.replicate need.length (0 : Int) = ownF need tu 0 from rfl]
      refine AList.c 17 rfl rfl rfl (OpJ.assign rfl rfl) ?_
      refine AList.nil ?_
      refine AWp.seq ?_
      refine AWp.seq ?_
      refine AWp.region ?_
      refine AList.c 18 rfl rfl rfl (OpJ.assign rfl rfl) ?_
      refine AList.nil ?_
      refine AWp.block ?_
      refine AWp.loopHL [0, 1, 2, 3, 8, 9, 12, 13, 14, 15, 16, 17, 19, 20, 21, 22, 23, 25, 26, 28, 29, 31, 32, 33, 34, 36, 131, 132, 133, 134, 135, 136, 137, 138, 139, 140, 141, 142, 143, 144, 145, 146, 147, 148, 149, 150, 151, 152, 153, 154, 155, 156, 157, 158, 159, 160, 161, 162, 163, 164, 165, 166, 167, 168, 169, 170, 171, 172, 173, 174, 175, 176, 177, 178, 179, 180, 181, 182, 183, 184, 185, 186, 187, 188, 189, 190, 191, 192, 193, 194, 195, 196, 197, 198, 199, 200, 201, 202, 203, 204, 205, 206, 207, 208, 209, 210, 211, 212, 213, 214, 215, 216, 217, 218, 219, 220, 221, 222, 223, 224, 225, 226, 227, 228, 229, 230, 231, 232, 233, 234, 235, 236, 237, 238, 239, 240, 241, 242, 243, 244, 245, 246, 247, 248, 249, 250, 251, 252, 253, 254, 255, 256, 257, 258, 259, 260, 261, 262, 263, 264, 265, 266, 267, 268, 269, 270, 271] (fun g => [(18, .p (.int .i64 ((g : Nat) : Int)))]) (fun g => [.dead, .row ((((toPl l).set kk (⟨(toPl l)[kk].s, min 1048576 ((toPl l)[kk].m + (mo : Int))⟩ : Pl)).flatMap Pl.cells).map .p) 46, .dead, .row ((((toPl l).set kk (⟨(toPl l)[kk].s ||| 1 * 2 ^ jj, (toPl l)[kk].m⟩ : Pl)).flatMap Pl.cells).map .p) 46, .row (((ownF need tu g).flatMap i1).map .p) 3]) (fun g => g ≤ need.length) (fun g => need.length - g) 0 (Nat.zero_le _) (To.sub (Sub.chk (Sub.cons rfl (Sub.nil)))) (fun i hg => ?_)
      refine AWp.seq ?_
      refine AWp.seq ?_
      refine AWp.region ?_
      refine AList.c 114 rfl rfl rfl (OpJ.move rfl rfl) ?_
      refine AList.c 115 rfl rfl rfl (OpJ.move rfl rfl) ?_
      refine AList.c 116 rfl rfl rfl (OpJ.lss rfl rfl rfl) ?_
      refine AList.nil ?_
      refine AWp.cond _ rfl (fun hc2 => ?_) (fun hc2 => ?_)
      · skip
        have hi0 : i < need.length := by have h := of_decide_eq_true hc2; omega
        have him := Nat.mod_lt (i + tu) h0
        have hio : (i + tu) % need.length < (ownF need tu i).length := by rw [ownF_len]; exact him
        have hei : need[i]?.getD 0 = need[i] := by simp [hi0]
        have hown : (ownF need tu i).set ((i + tu) % need.length) need[i] = ownF need tu (i + 1) := by simp only [ownF]; rw [hei]
        refine AWp.skip ?_
        refine AWp.seq ?_
        refine AWp.block ?_
        refine AWp.regionDraw 12 mixed (by kernel_rfl) (by decide) ?_
        refine AQuiet.cons 119 rfl rfl rfl (OpJ.move rfl rfl) ?_
        refine AQuiet.cons 120 rfl rfl rfl (OpJ.move rfl rfl) ?_
        refine AQuiet.cons 121 rfl rfl rfl (OpJ.move rfl rfl) ?_
        refine AQuiet.cons 122 rfl rfl rfl (OpJ.convInt rfl rfl (by rw [un5]; rfl) un3 (i64ok ?_)) ?_
        · omega
        refine AQuiet.cons 123 rfl rfl rfl (OpJ.add rfl rfl rfl (i64ok ?_)) ?_
        · omega
        refine AQuiet.cons 124 rfl rfl rfl (OpJ.move rfl rfl) ?_
        refine AQuiet.cons 125 rfl rfl rfl (OpJ.rem (m := (((i + tu) % need.length : Nat) : Int)) rfl rfl rfl ?_ ?_) ?_
        · omega
        · exact tmodN _ _
        refine AQuiet.cons 126 rfl rfl rfl (OpJ.move rfl rfl) ?_
        refine AQuiet.cons 127 rfl rfl rfl (OpJ.move rfl rfl) ?_
        refine AQuiet.cons 128 rfl rfl rfl (OpJ.indexEl rfl rfl rfl sl22 el22 rfl (fun _ => rfl) (by decide) hi0) ?_
        refine AQuiet.cons 129 rfl rfl rfl (OpJ.load rfl rfl ty3 rfl) ?_
        refine AQuiet.cons 130 rfl rfl rfl (OpJ.indexRow rfl rfl rfl sl22 el22 him) ?_
        refine AQuiet.nil ?_
        refine AList.c0 rfl rfl (OpJ.storeRow (f := i1) (c := 1) (k := ((i + tu) % need.length)) (j := 0) (xs := (ownF need tu i)) (z := need[i]) (ws := [_]) rfl rfl rfl rfl rfl ty3 rfl rfl rfl (by omega) (fun _ => rfl) hio (Nat.le_of_ble_eq_true rfl) rfl) ?_
        refine AList.nil ?_
        refine AWp.region ?_
        refine AList.c 117 rfl rfl rfl (OpJ.move rfl rfl) ?_
        refine AList.c 118 rfl rfl rfl (OpJ.add rfl rfl rfl (i64ok ?_)) ?_
        · omega
        refine AList.c 18 rfl rfl rfl (OpJ.assign rfl rfl) ?_
        refine AList.nil ?_
        refine ⟨i + 1, ?_, ?_, ?_⟩
        · omega
        · omega
        rw [hown]
        exact To.sub (by repeat (first | exact Sub.nil | refine Sub.cons rfl ?_))
      · skip
        obtain rfl : i = need.length := by have h := of_decide_eq_false hc2; omega
        refine AWp.exit ?_
        refine AWp.seq ?_
        refine AWp.seq ?_
        refine AWp.region ?_
        refine AList.c 19 rfl rfl rfl (OpJ.assign rfl rfl) ?_
        refine AList.nil ?_
        refine AWp.block ?_
        refine AWp.loopHL [0, 1, 2, 3, 8, 9, 12, 13, 14, 15, 17, 23, 25, 26, 28, 29, 31, 32, 33, 34, 36, 172, 173, 174, 175, 176, 177, 178, 179, 180, 181, 182, 183, 184, 185, 186, 187, 188, 189, 190, 191, 192, 193, 194, 195, 196, 197, 198, 199, 200, 201, 202, 203, 204, 205, 206, 207, 208, 209, 210, 211, 212, 213, 214, 215, 216, 217, 218, 219, 220, 221, 222, 223, 224, 225, 226, 227, 228, 229, 230, 231, 232, 233, 234, 235, 236, 237, 238, 239, 240, 241, 242, 243, 244, 245, 246, 247, 248, 249, 250, 251, 252, 253, 254, 255, 256, 257, 258, 259, 260, 261, 262, 263, 264, 265, 266, 267, 268, 269, 270, 271] (fun g => [(19, .p (.int .i64 ((g : Nat) : Int))), (16, accV 5 g)]) (fun g => [.dead, .row ((((toPl l).set kk (⟨(toPl l)[kk].s, min 1048576 ((toPl l)[kk].m + (mo : Int))⟩ : Pl)).flatMap Pl.cells).map .p) 46, .dead, .row ((((toPl l).set kk (⟨(toPl l)[kk].s ||| 1 * 2 ^ jj, (toPl l)[kk].m⟩ : Pl)).flatMap Pl.cells).map .p) 46, .row (((ownF need tu need.length).flatMap i1).map .p) 3, accB (((turnP need.length tu (toPl l) g).flatMap Pl.cells).map .p) 46 g]) (fun g => g ≤ (toPl l).length) (fun g => (toPl l).length - g) 0 (Nat.zero_le _) (To.pad.trans (To.sub (Sub.chk (Sub.cons rfl (Sub.cons rfl Sub.nil))))) (fun i hg => ?_)
        refine AWp.seq ?_
        refine AWp.seq ?_
        refine AWp.region ?_
        refine AList.c 131 rfl rfl rfl (OpJ.move rfl rfl) ?_
        refine AList.c 132 rfl rfl rfl (OpJ.move rfl rfl) ?_
        refine AList.c 133 rfl rfl rfl (OpJ.lenSlice rfl rfl sl23 rfl) ?_
        refine AList.c 134 rfl rfl rfl (OpJ.lss rfl rfl rfl) ?_
        refine AList.nil ?_
        refine AWp.cond _ rfl (fun hc3 => ?_) (fun hc3 => ?_)
        · skip
          have hi0 : i < (toPl l).length := by have h := of_decide_eq_true hc3; omega
          have him := Nat.mod_lt (i + tu) hT0
          have hpi := hL.2 (toPl l)[(i + tu) % (toPl l).length] (List.getElem_mem _)
          have hei : (toPl l)[(i + tu) % (toPl l).length]?.getD ⟨0, 0⟩ = (toPl l)[(i + tu) % (toPl l).length] := by simp [him]
          refine AWp.skip ?_
          refine AWp.seq ?_
          refine AWp.block ?_
          refine AWp.seq ?_
          refine AWp.region ?_
          refine AList.c 137 rfl rfl rfl (OpJ.move rfl rfl) ?_
          refine AList.c 138 rfl rfl rfl (OpJ.move rfl rfl) ?_
          refine AList.c 139 rfl rfl rfl (OpJ.move rfl rfl) ?_
          refine AList.c 140 rfl rfl rfl (OpJ.convInt rfl rfl (by rw [un5]; rfl) un3 (i64ok ?_)) ?_
          · omega
          refine AList.c 141 rfl rfl rfl (OpJ.add rfl rfl rfl (i64ok ?_)) ?_
          · omega
          refine AList.c 142 rfl rfl rfl (OpJ.move rfl rfl) ?_
          refine AList.c 143 rfl rfl rfl (OpJ.lenSlice rfl rfl sl23 rfl) ?_
          refine AList.c 144 rfl rfl rfl (OpJ.rem (m := (((i + tu) % (toPl l).length : Nat) : Int)) rfl rfl rfl ?_ ?_) ?_
          · omega
          · exact tmodN _ _
          refine AList.c 145 rfl rfl rfl (OpJ.indexEl rfl rfl rfl sl23 el23 rfl (fun _ => rfl) (by decide) him) ?_
          refine AList.c 146 rfl rfl rfl (OpJ.load rfl rfl ty46 rfl) ?_
          refine AList.c 20 rfl rfl rfl (OpJ.allocOwn rfl zr46 rfl) ?_
          refine AList.c0 rfl rfl (OpJ.store rfl rfl rfl rfl rfl ty46 rfl rfl) ?_
          refine AList.nil ?_
          refine AWp.seq ?_
          refine AWp.region ?_
          refine AList.c 21 rfl rfl rfl (OpJ.assign rfl rfl) ?_
          refine AList.nil ?_
          refine AWp.seq ?_
          refine AWp.seq ?_
          refine AWp.region ?_
          refine AList.c 22 rfl rfl rfl (OpJ.assign rfl rfl) ?_
          refine AList.nil ?_
          refine AWp.block ?_
          refine AWp.loopKL [0, 1, 2, 3, 8, 9, 12, 13, 14, 15, 16, 17, 19, 20, 23, 25, 26, 28, 29, 31, 32, 33, 34, 36, 131, 132, 133, 134, 135, 136, 137, 138, 139, 140, 141, 142, 143, 144, 145, 146, 165, 166, 167, 168, 169, 170, 171, 172, 173, 174, 175, 176, 177, 178, 179, 180, 181, 182, 183, 184, 185, 186, 187, 188, 189, 190, 191, 192, 193, 194, 195, 196, 197, 198, 199, 200, 201, 202, 203, 204, 205, 206, 207, 208, 209, 210, 211, 212, 213, 214, 215, 216, 217, 218, 219, 220, 221, 222, 223, 224, 225, 226, 227, 228, 229, 230, 231, 232, 233, 234, 235, 236, 237, 238, 239, 240, 241, 242, 243, 244, 245, 246, 247, 248, 249, 250, 251, 252, 253, 254, 255, 256, 257, 258, 259, 260, 261, 262, 263, 264, 265, 266, 267, 268, 269, 270, 271] (fun g => [(22, .p (.int .i64 ((g : Nat) : Int))), (21, .p (.int .i64 (((rotF need.length tu (toPl l)[(i + tu) % (toPl l).length].s g) : Nat) : Int)))]) (fun g => g ≤ need.length) (fun g => need.length - g) 0 (Nat.zero_le _) (Sub.cons rfl (Sub.cons rfl (Sub.nil))) (fun k hh => ?_)
          refine AWp.seq ?_
          refine AWp.seq ?_
          refine AWp.region ?_
          refine AList.c 147 rfl rfl rfl (OpJ.move rfl rfl) ?_
          refine AList.c 148 rfl rfl rfl (OpJ.move rfl rfl) ?_
          refine AList.c 149 rfl rfl rfl (OpJ.lss rfl rfl rfl) ?_
          refine AList.nil ?_
          refine AWp.cond _ rfl (fun hc4 => ?_) (fun hc4 => ?_)
          · skip
            have hk1 : k < need.length := by have h := of_decide_eq_true hc4; omega
            have hkm := Nat.mod_lt (k + tu) h0
            have hpm : 2 ^ ((k + tu) % need.length) < 2 ^ need.length := Nat.pow_lt_pow_right (by omega) hkm
            have hrl := rotF_lt (L := need.length) (T := tu) (q := (toPl l)[(i + tu) % (toPl l).length].s) h0 k
            have hrl2 := rotF_lt (L := need.length) (T := tu) (q := (toPl l)[(i + tu) % (toPl l).length].s) h0 (k + 1)
            refine AWp.skip ?_
            refine AWp.seq ?_
            refine AWp.block ?_
            refine AWp.seq ?_
            refine AWp.region ?_
            refine AList.c 152 rfl rfl rfl (OpJ.fieldAddr rfl rfl fd46_0 rfl) ?_
            refine AList.c 153 rfl rfl rfl (OpJ.load rfl rfl ty3 rfl) ?_
            refine AList.c 154 rfl rfl rfl (OpJ.move rfl rfl) ?_
            refine AList.c 155 rfl rfl rfl (OpJ.callP (has_ok (toPl l)[(i + tu) % (toPl l).length].s k (by omega) (by omega)) rfl rfl rfl rfl rf25) ?_
            refine AList.nil ?_
            refine AWp.cond _ rfl (fun hc5 => ?_) (fun hc5 => ?_)
            · skip
              have hro : (rotF need.length tu (toPl l)[(i + tu) % (toPl l).length].s (k + 1)) = (rotF need.length tu (toPl l)[(i + tu) % (toPl l).length].s k) ||| 1 * 2 ^ ((k + tu) % need.length) := by rw [rotF, if_pos hc5]
              refine AWp.region ?_
              refine AList.c 156 rfl rfl rfl (OpJ.move rfl rfl) ?_
              refine AList.c 157 rfl rfl rfl (OpJ.move rfl rfl) ?_
              refine AList.c 158 rfl rfl rfl (OpJ.move rfl rfl) ?_
              refine AList.c 159 rfl rfl rfl (OpJ.convInt rfl rfl (by rw [un5]; rfl) un3 (i64ok ?_)) ?_
              · omega
              refine AList.c 160 rfl rfl rfl (OpJ.add rfl rfl rfl (i64ok ?_)) ?_
              · omega
              refine AList.c 161 rfl rfl rfl (OpJ.move rfl rfl) ?_
              refine AList.c 162 rfl rfl rfl (OpJ.rem (m := (((k + tu) % need.length : Nat) : Int)) rfl rfl rfl ?_ ?_) ?_
              · omega
              · exact tmodN _ _
              refine AList.c 163 rfl rfl rfl (OpJ.shlN 1 ((k + tu) % need.length) rfl rfl rfl (by show _ ≤ (64 : Nat); omega) (show ((1 * 2 ^ ((k + tu) % need.length) : Nat) : Int) ≤ 9223372036854775807 by omega)) ?_
              refine AList.c 164 rfl rfl rfl (OpJ.orN (rotF need.length tu (toPl l)[(i + tu) % (toPl l).length].s k) (1 * 2 ^ ((k + tu) % need.length)) rfl rfl rfl (by show _ ≤ (9223372036854775807 : Int); omega) (by show _ ≤ (9223372036854775807 : Int); omega) (by show _ ≤ (9223372036854775807 : Int); omega)) ?_
              refine AList.c 21 rfl rfl rfl (OpJ.assign rfl rfl) ?_
              refine AList.nil ?_
              refine AWp.region ?_
              refine AList.c 150 rfl rfl rfl (OpJ.move rfl rfl) ?_
              refine AList.c 151 rfl rfl rfl (OpJ.add rfl rfl rfl (i64ok ?_)) ?_
              · omega
              refine AList.c 22 rfl rfl rfl (OpJ.assign rfl rfl) ?_
              refine AList.nil ?_
              refine ⟨k + 1, ?_, ?_, ?_⟩
              · omega
              · omega
              refine To.sub (Sub.cons rfl (Sub.cons ?_ (by repeat (first | exact Sub.nil | refine Sub.cons rfl ?_))))
              rw [hro]; rfl
            · skip
              have hro : (rotF need.length tu (toPl l)[(i + tu) % (toPl l).length].s (k + 1)) = (rotF need.length tu (toPl l)[(i + tu) % (toPl l).length].s k) := by rw [rotF, if_neg (by rw [hc5]; decide)]
              refine AWp.skip ?_
              refine AWp.region ?_
              refine AList.c 150 rfl rfl rfl (OpJ.move rfl rfl) ?_
              refine AList.c 151 rfl rfl rfl (OpJ.add rfl rfl rfl (i64ok ?_)) ?_
              · omega
              refine AList.c 22 rfl rfl rfl (OpJ.assign rfl rfl) ?_
              refine AList.nil ?_
              refine ⟨k + 1, ?_, ?_, ?_⟩
              · omega
              · omega
              refine To.sub (Sub.cons rfl (Sub.cons ?_ (by repeat (first | exact Sub.nil | refine Sub.cons rfl ?_))))
              rw [hro]; rfl
          · skip
            obtain rfl : k = need.length := by have h := of_decide_eq_false hc4; omega
            refine AWp.exit ?_
            refine AWp.region ?_
            refine AList.c 165 rfl rfl rfl (OpJ.move rfl rfl) ?_
            refine AList.c 166 rfl rfl rfl (OpJ.move rfl rfl) ?_
            refine AList.c 167 rfl rfl rfl (OpJ.fieldAddr rfl rfl fd46_1 rfl) ?_
            refine AList.c 168 rfl rfl rfl (OpJ.load rfl rfl ty3 rfl) ?_
            refine AList.c 169 rfl rfl rfl (OpJ.build rfl bd46 rfl rfl) ?_
            refine AList.c 170 rfl rfl rfl (OpJ.buildImm rfl slz23 (by decide) rfl rfl rfl) ?_
            refine AList.c 171 rfl rfl rfl (OpJ.appendAcc rfl rfl rfl slz23 sl23 rfl ?_ rfl (by decide) rfl by46 (by decide) ?_) ?_
            · rw [List.length_map, flat_len (c := 2) (fun _ => rfl), turnP_len]; rfl
            · omega
            refine AList.c 16 rfl rfl rfl (OpJ.assign rfl rfl) ?_
            refine AList.nil ?_
            refine AWp.region ?_
            refine AList.c 135 rfl rfl rfl (OpJ.move rfl rfl) ?_
            refine AList.c 136 rfl rfl rfl (OpJ.add rfl rfl rfl (i64ok ?_)) ?_
            · omega
            refine AList.c 19 rfl rfl rfl (OpJ.assign rfl rfl) ?_
            refine AList.nil ?_
            refine ⟨i + 1, ?_, ?_, ?_⟩
            · omega
            · omega
            refine To.done [0, 1, 2, 3, 4, 7] rfl (by repeat (first | exact Sub.nil | refine Sub.cons rfl ?_)) ?_
            show [_, Blk.row (renL _ _) _, _, Blk.row (renL _ _) _, Blk.row (renL _ _) _, Blk.row (renL _ (_ ++ _)) _] = _
            rw [renL_app, renL_pure, renL_pure, renL_pure, renL_pure, turnP_succ, hei, List.flatMap_append, List.map_append]
            rfl
        · skip
          obtain rfl : i = (toPl l).length := by have h := of_decide_eq_false hc3; omega
          rw [accV_pos hT0, accB_pos hT0]
          refine AWp.exit ?_
          refine AWp.seq ?_
          refine AWp.region ?_
          refine AList.c 173 rfl rfl rfl (OpJ.move rfl rfl) ?_
          refine AList.c 174 rfl rfl rfl (OpJ.move rfl rfl) ?_
          refine AList.c 175 rfl rfl rfl (OpJ.callB 3 (most_LR need ((toPl l).set kk (⟨(toPl l)[kk].s, min 1048576 ((toPl l)[kk].m + (mo : Int))⟩ : Pl)) need.length (0 + (toPl l).length) rfl (by rw [List.length_set]; omega) hnl (by omega)) rfl rfl rfl rfl rfl (mapO.c brwP (mapO.c (brwRow rfl) mapO.n)) rf12) ?_
          refine AList.c 172 rfl rfl rfl (OpJ.move rfl rfl) ?_
          refine AList.c 176 rfl rfl rfl (OpJ.extract rfl rfl rfl) ?_
          refine AList.c 177 rfl rfl rfl (OpJ.extract rfl rfl rfl) ?_
          refine AList.c 178 rfl rfl rfl (OpJ.extract rfl rfl rfl) ?_
          refine AList.c 23 rfl rfl rfl (OpJ.assign rfl rfl) ?_
          refine AList.c 24 rfl rfl rfl (OpJ.assign rfl rfl) ?_
          refine AList.c 25 rfl rfl rfl (OpJ.assign rfl rfl) ?_
          refine AList.nil ?_
          refine AWp.seq ?_
          refine AWp.region ?_
          refine AList.c 180 rfl rfl rfl (OpJ.move rfl rfl) ?_
          refine AList.c 181 rfl rfl rfl (OpJ.move rfl rfl) ?_
          refine AList.c 182 rfl rfl rfl (OpJ.callB 3 (most_LR need ((toPl l).set kk (⟨(toPl l)[kk].s ||| 1 * 2 ^ jj, (toPl l)[kk].m⟩ : Pl)) need.length (0 + (toPl l).length) rfl (by rw [List.length_set]; omega) hnl (by omega)) rfl rfl rfl rfl rfl (mapO.c brwP (mapO.c (brwRow rfl) mapO.n)) rf12) ?_
          refine AList.c 179 rfl rfl rfl (OpJ.move rfl rfl) ?_
          refine AList.c 183 rfl rfl rfl (OpJ.extract rfl rfl rfl) ?_
          refine AList.c 184 rfl rfl rfl (OpJ.extract rfl rfl rfl) ?_
          refine AList.c 185 rfl rfl rfl (OpJ.extract rfl rfl rfl) ?_
          refine AList.c 26 rfl rfl rfl (OpJ.assign rfl rfl) ?_
          refine AList.c 27 rfl rfl rfl (OpJ.assign rfl rfl) ?_
          refine AList.c 28 rfl rfl rfl (OpJ.assign rfl rfl) ?_
          refine AList.nil ?_
          refine AWp.seq ?_
          refine AWp.region ?_
          refine AList.c 187 rfl rfl rfl (OpJ.move rfl rfl) ?_
          refine AList.c 188 rfl rfl rfl (OpJ.move rfl rfl) ?_
          refine AList.c 189 rfl rfl rfl (OpJ.callB 3 (most_LR (ownF need tu need.length) (turnP need.length tu (toPl l) (toPl l).length) need.length (toPl l).length (ownF_len _ _ _) (turnP_len _ _ _ _) hnl (by omega)) rfl rfl rfl rfl rfl (mapO.c (brwRow rfl) (mapO.c (brwRow rfl) mapO.n)) rf12) ?_
          refine AList.c 186 rfl rfl rfl (OpJ.move rfl rfl) ?_
          refine AList.c 190 rfl rfl rfl (OpJ.extract rfl rfl rfl) ?_
          refine AList.c 191 rfl rfl rfl (OpJ.extract rfl rfl rfl) ?_
          refine AList.c 192 rfl rfl rfl (OpJ.extract rfl rfl rfl) ?_
          refine AList.c 29 rfl rfl rfl (OpJ.assign rfl rfl) ?_
          refine AList.c 30 rfl rfl rfl (OpJ.assign rfl rfl) ?_
          refine AList.c 31 rfl rfl rfl (OpJ.assign rfl rfl) ?_
          refine AList.nil ?_
          refine AWp.seq ?_
          refine AWp.seq ?_
          refine AWp.region ?_
          refine AList.c 193 rfl rfl rfl (OpJ.move rfl rfl) ?_
          refine AList.c 194 rfl rfl rfl (OpJ.neq rfl rfl rfl) ?_
          refine AList.c 195 rfl rfl rfl (OpJ.move rfl rfl) ?_
          refine AList.g 196 195 rfl rfl rfl rfl rfl rfl rfl [(23, _)] (fun h => And.intro (.inl rfl) (trivial)) (fun h => (OpJ.move rfl rfl)) ?_
          refine AList.g 197 195 rfl rfl rfl rfl rfl rfl rfl [(9, _)] (fun h => And.intro (.inl rfl) (trivial)) (fun h => (OpJ.move rfl rfl)) ?_
          refine AList.g 198 195 rfl rfl rfl rfl rfl rfl rfl [(196, _), (197, _)] (fun h => And.intro (.inr ⟨_, rfl, h⟩) (And.intro (.inr ⟨_, rfl, h⟩) (trivial))) (fun h => (OpJ.lss rfl rfl rfl)) ?_
          refine AList.c 199 rfl rfl rfl (OpJ.or_ rfl rfl rfl ?_) ?_
          · first | (intro h; rw [h]; rfl) | (intro h; simp_all)
          refine AList.c 200 rfl rfl rfl (OpJ.move rfl rfl) ?_
          refine AList.g 201 200 rfl rfl rfl rfl rfl rfl rfl [(28, _)] (fun h => And.intro (.inl rfl) (trivial)) (fun h => (OpJ.move rfl rfl)) ?_
          refine AList.g 202 200 rfl rfl rfl rfl rfl rfl rfl [(201, _)] (fun h => And.intro (.inr ⟨_, rfl, h⟩) (trivial)) (fun h => (OpJ.neq rfl rfl rfl)) ?_
          refine AList.c 203 rfl rfl rfl (OpJ.or_ rfl rfl rfl ?_) ?_
          · first | (intro h; rw [h]; rfl) | (intro h; simp_all)
          refine AList.c 204 rfl rfl rfl (OpJ.move rfl rfl) ?_
          refine AList.g 205 204 rfl rfl rfl rfl rfl rfl rfl [(26, _)] (fun h => And.intro (.inl rfl) (trivial)) (fun h => (OpJ.move rfl rfl)) ?_
          refine AList.g 206 204 rfl rfl rfl rfl rfl rfl rfl [(9, _)] (fun h => And.intro (.inl rfl) (trivial)) (fun h => (OpJ.move rfl rfl)) ?_
          refine AList.g 207 204 rfl rfl rfl rfl rfl rfl rfl [(205, _), (206, _)] (fun h => And.intro (.inr ⟨_, rfl, h⟩) (And.intro (.inr ⟨_, rfl, h⟩) (trivial))) (fun h => (OpJ.lss rfl rfl rfl)) ?_
          refine AList.c 208 rfl rfl rfl (OpJ.or_ rfl rfl rfl ?_) ?_
          · first | (intro h; rw [h]; rfl) | (intro h; simp_all)
          refine AList.c 209 rfl rfl rfl (OpJ.move rfl rfl) ?_
          refine AList.g 210 209 rfl rfl rfl rfl rfl rfl rfl [(31, _)] (fun h => And.intro (.inl rfl) (trivial)) (fun h => (OpJ.move rfl rfl)) ?_
          refine AList.g 211 209 rfl rfl rfl rfl rfl rfl rfl [(210, _)] (fun h => And.intro (.inr ⟨_, rfl, h⟩) (trivial)) (fun h => (OpJ.neq rfl rfl rfl)) ?_
          refine AList.c 212 rfl rfl rfl (OpJ.or_ rfl rfl rfl ?_) ?_
          · first | (intro h; rw [h]; rfl) | (intro h; simp_all)
          refine AList.c 213 rfl rfl rfl (OpJ.move rfl rfl) ?_
          refine AList.g 214 213 rfl rfl rfl rfl rfl rfl rfl [(29, _)] (fun h => And.intro (.inl rfl) (trivial)) (fun h => (OpJ.move rfl rfl)) ?_
          refine AList.g 215 213 rfl rfl rfl rfl rfl rfl rfl [(9, _)] (fun h => And.intro (.inl rfl) (trivial)) (fun h => (OpJ.move rfl rfl)) ?_
          refine AList.g 216 213 rfl rfl rfl rfl rfl rfl rfl [(214, _), (215, _)] (fun h => And.intro (.inr ⟨_, rfl, h⟩) (And.intro (.inr ⟨_, rfl, h⟩) (trivial))) (fun h => (OpJ.neq rfl rfl rfl)) ?_
          refine AList.c 217 rfl rfl rfl (OpJ.or_ rfl rfl rfl ?_) ?_
          · first | (intro h; rw [h]; rfl) | (intro h; simp_all)
          refine AList.nil ?_
          refine AWp.cond _ rfl (fun hc6 => ?_) (fun hc6 => ?_)
          · skip
            have v1 := okP_set (k := kk) (p := (⟨(toPl l)[kk].s, min 1048576 ((toPl l)[kk].m + (mo : Int))⟩ : Pl)) hL ⟨hpk.1, by show 0 ≤ min 1048576 _; omega, by show min 1048576 _ ≤ _; omega⟩
            have v2 := okP_set (k := kk) (p := (⟨(toPl l)[kk].s ||| 1 * 2 ^ jj, (toPl l)[kk].m⟩ : Pl)) hL ⟨hor, hpk.2⟩
            have e1 := most_ok (vld_pr hV v1)
            have e2 := most_ok (vld_pr hV v2)
            have e3 := most_ok (vld_turn hV tu hT0)
            have g1 := most_more hV v1 (fun t => ofP_set_le hk0 _ t (by show _ ≤ if (toPl l)[kk].s &&& t = 0 then (0 : Int) else min 1048576 _; split <;> omega))
            have g2 := most_more hV v2 (fun t => ofP_set_le hk0 _ t (wide_le _ _ _ hpk.2.1))
            have g3 := most_turn hV tu hT0
            rw [e1, e2, e3, g3] at hc6
            simp only [Bool.or_eq_true, Bool.not_eq_true', decide_eq_true_eq, decide_eq_false_iff_not, Bool.not_true, Bool.false_eq_true, or_false, false_or] at hc6
            rcases hc6 with ((((h | h) | h) | h) | h) | h
            · exact (h trivial).elim
            · exact absurd h (by omega)
            · exact (h trivial).elim
            · exact absurd h (by omega)
            · exact (h trivial).elim
            · exact (h trivial).elim
          · skip
            refine AWp.skip ?_
            refine AWp.seq ?_
            refine AWp.seq ?_
            refine AWp.region ?_
            refine AList.c 218 rfl rfl rfl (OpJ.move rfl rfl) ?_
            refine AList.c 219 rfl rfl rfl (OpJ.lenSlice rfl rfl sl23 rfl) ?_
            refine AList.c 220 rfl rfl rfl (OpJ.geq rfl rfl rfl) ?_
            refine AList.nil ?_
            refine AWp.cond _ rfl (fun hc7 => ?_) (fun hc7 => ?_)
            · skip
              refine AWp.seq ?_
              refine AWp.region ?_
              refine AList.c 221 rfl rfl rfl (OpJ.callP (awake_ok) rfl rfl rfl rfl rf11) ?_
              refine AList.c 8 rfl rfl rfl (OpJ.assign rfl rfl) ?_
              refine AList.nil ?_
              refine AWp.ret ?_
              refine Fin.oneE rfl rfl ?_
              rfl
            · skip
              have hl7 : (toPl l).length < 8 := by have h := of_decide_eq_false hc7; omega
              obtain ⟨mk, hmk⟩ := Int.eq_ofNat_of_zero_le hpk.2.1
              obtain ⟨pt, hpt⟩ : ∃ pt, pt = mo % (mk + 1) := ⟨_, rfl⟩
              have hptl : pt < mk + 1 := by rw [hpt]; exact Nat.mod_lt _ (by omega)
              refine AWp.skip ?_
              refine AWp.seq ?_
              refine AWp.region ?_
              refine AList.c 222 rfl rfl rfl (OpJ.buildOwn rfl slz23 (by decide) rfl rfl) ?_
              refine AList.c 223 rfl rfl rfl (OpJ.move rfl rfl) ?_
              refine AList.c 224 rfl rfl rfl (OpJ.appendRow rfl rfl rfl slz23 sl23 rfl ?_ (asrc_is (xs := ((toPl l).flatMap Pl.cells)) (n := (toPl l).length) (sz := 2) (flat_len (c := 2) (fun _ => rfl) (toPl l))) (onePl _) by46 (by decide) ?_) ?_
              · rfl
              · show (2 * (0 + (toPl l).length) + 192) * 16 ≤ 281474976710656; omega
              refine AList.c 32 rfl rfl rfl (OpJ.assign rfl rfl) ?_
              refine AList.nil ?_
              refine AWp.seq ?_
              refine AWp.region ?_
              refine AList.c 225 rfl rfl rfl (OpJ.move rfl rfl) ?_
              refine AList.c 226 rfl rfl rfl (OpJ.convInt rfl rfl (by rw [un50]; rfl) un3 (i64ok ?_)) ?_
              · omega
              refine AList.c 227 rfl rfl rfl (OpJ.move rfl rfl) ?_
              refine AList.c 228 rfl rfl rfl (OpJ.move rfl rfl) ?_
              refine AList.c 229 rfl rfl rfl (OpJ.indexEl rfl rfl rfl sl23 el23 rfl (fun _ => rfl) (by decide) hk0) ?_
              refine AList.c 230 rfl rfl rfl (OpJ.fieldAddr rfl rfl fd46_1 rfl) ?_
              refine AList.c 231 rfl rfl rfl (OpJ.load rfl rfl ty3 rfl) ?_
              refine AList.c 232 rfl rfl rfl (OpJ.add (m := ((mk + 1 : Nat) : Int)) rfl rfl rfl ((i64ok ?_).trans ?_)) ?_
              · omega
              · omega
              refine AList.c 233 rfl rfl rfl (OpJ.rem (m := (pt : Int)) rfl rfl rfl ?_ ?_) ?_
              · omega
              · rw [hpt]; exact tmodN _ _
              refine AList.c 33 rfl rfl rfl (OpJ.assign rfl rfl) ?_
              refine AList.nil ?_
              refine AWp.seq ?_
              refine AWp.region ?_
              refine AList.c 234 rfl rfl rfl (OpJ.move rfl rfl) ?_
              refine AList.c 235 rfl rfl rfl (OpJ.move rfl rfl) ?_
              refine AList.c 236 rfl rfl rfl (OpJ.move rfl rfl) ?_
              refine AList.c 237 rfl rfl rfl (OpJ.move rfl rfl) ?_
              refine AList.c 238 rfl rfl rfl (OpJ.indexEl rfl rfl rfl sl23 el23 rfl (fun _ => rfl) (by decide) hk0) ?_
              refine AList.c 239 rfl rfl rfl (OpJ.fieldAddr rfl rfl fd46_1 rfl) ?_
              refine AList.c 240 rfl rfl rfl (OpJ.load rfl rfl ty3 rfl) ?_
              refine AList.c 241 rfl rfl rfl (OpJ.move rfl rfl) ?_
              refine AList.c 242 rfl rfl rfl (OpJ.sub_ rfl rfl rfl (i64ok ?_)) ?_
              · omega
              refine AList.c 243 rfl rfl rfl (OpJ.indexRow rfl rfl rfl sl23 el23 (show kk < 0 + (toPl l).length by omega)) ?_
              refine AList.c 244 rfl rfl rfl (OpJ.fieldAddr rfl rfl fd46_1 rfl) ?_
              refine AList.c0 rfl rfl (OpJ.storeRow (f := Pl.cells) (c := 2) (k := kk) (j := 1) (xs := (toPl l)) (z := (⟨(toPl l)[kk].s, (toPl l)[kk].m - (pt : Int)⟩ : Pl)) (ws := [_]) rfl rfl rfl rfl rfl ty3 rfl rfl rfl (by omega) (fun _ => rfl) hk0 (Nat.le_of_ble_eq_true rfl) rfl) ?_
              refine AList.nil ?_
              refine AWp.seq ?_
              refine AWp.region ?_
              refine AList.c 245 rfl rfl rfl (OpJ.move rfl rfl) ?_
              refine AList.c 246 rfl rfl rfl (OpJ.move rfl rfl) ?_
              refine AList.c 247 rfl rfl rfl (OpJ.move rfl rfl) ?_
              refine AList.c 248 rfl rfl rfl (OpJ.indexEl rfl rfl rfl sl23 el23 rfl (fun _ => rfl) (by decide) hk0) ?_
              refine AList.c 249 rfl rfl rfl (OpJ.fieldAddr rfl rfl fd46_0 rfl) ?_
              refine AList.c 250 rfl rfl rfl (OpJ.load rfl rfl ty3 rfl) ?_
              refine AList.c 251 rfl rfl rfl (OpJ.move rfl rfl) ?_
              refine AList.c 252 rfl rfl rfl (OpJ.build rfl bd46 rfl rfl) ?_
              refine AList.c 253 rfl rfl rfl (OpJ.buildImm rfl slz23 (by decide) rfl rfl rfl) ?_
              refine AList.c 254 rfl rfl rfl (OpJ.appendRow rfl rfl rfl slz23 sl23 rfl ?_ rfl rfl by46 (by decide) ?_) ?_
              · rw [List.length_map, flat_len (c := 2) (fun _ => rfl), List.length_set, Nat.zero_add]; rfl
              · show (2 * (0 + (toPl l).length + 1) + 192) * 16 ≤ 281474976710656; omega
              refine AList.c 32 rfl rfl rfl (OpJ.assign rfl rfl) ?_
              refine AList.nil ?_
              refine AWp.seq ?_
              refine AWp.region ?_
              refine AList.c 256 rfl rfl rfl (OpJ.move rfl rfl) ?_
              refine AList.c 257 rfl rfl rfl (OpJ.move rfl rfl) ?_
              refine AList.c 258 rfl rfl rfl (OpJ.callB 3 (most_parts need (toPl l) kk pt hnl (by omega)) rfl rfl rfl rfl rfl (mapO.c brwP (mapO.c (brwRow (xs := ((toPl l).set kk (⟨(toPl l)[kk].s, (toPl l)[kk].m - (pt : Int)⟩ : Pl)).flatMap Pl.cells ++ [.int .i64 ((toPl l)[kk].s : Int), .int .i64 (pt : Int)]) (show _ = some (List.map V.p (_ ++ _)) from by rw [List.map_append]; rfl)) mapO.n)) rf12) ?_
              refine AList.c 255 rfl rfl rfl (OpJ.move rfl rfl) ?_
              refine AList.c 259 rfl rfl rfl (OpJ.extract rfl rfl rfl) ?_
              refine AList.c 260 rfl rfl rfl (OpJ.extract rfl rfl rfl) ?_
              refine AList.c 261 rfl rfl rfl (OpJ.extract rfl rfl rfl) ?_
              refine AList.c 34 rfl rfl rfl (OpJ.assign rfl rfl) ?_
              refine AList.c 35 rfl rfl rfl (OpJ.assign rfl rfl) ?_
              refine AList.c 36 rfl rfl rfl (OpJ.assign rfl rfl) ?_
              refine AList.nil ?_
              refine AWp.seq ?_
              refine AWp.region ?_
              refine AList.c 262 rfl rfl rfl (OpJ.move rfl rfl) ?_
              refine AList.c 263 rfl rfl rfl (OpJ.move rfl rfl) ?_
              refine AList.c 264 rfl rfl rfl (OpJ.eql rfl rfl rfl) ?_
              refine AList.c 265 rfl rfl rfl (OpJ.move rfl rfl) ?_
              refine AList.g 266 265 rfl rfl rfl rfl rfl rfl rfl [(36, _)] (fun h => And.intro (.inl rfl) (trivial)) (fun h => (OpJ.move rfl rfl)) ?_
              refine AList.g 267 265 rfl rfl rfl rfl rfl rfl rfl [(266, _)] (fun h => And.intro (.inr ⟨_, rfl, h⟩) (trivial)) (fun h => (OpJ.eql rfl rfl rfl)) ?_
              refine AList.c 268 rfl rfl rfl (OpJ.and_ rfl rfl rfl ?_) ?_
              · first | (intro h; rw [h]; rfl) | (intro h; simp_all)
              refine AList.c 269 rfl rfl rfl (OpJ.move rfl rfl) ?_
              refine AList.g 270 269 rfl rfl rfl rfl rfl rfl rfl [] (fun h => trivial) (fun h => (OpJ.callP (awake_ok) rfl rfl rfl rfl rf11)) ?_
              refine AList.c 271 rfl rfl rfl (OpJ.and_ rfl rfl rfl ?_) ?_
              · first | (intro h; rw [h]; rfl) | (intro h; simp_all)
              refine AList.c 8 rfl rfl rfl (OpJ.assign rfl rfl) ?_
              refine AList.nil ?_
              refine AWp.ret ?_
              refine Fin.oneE rfl rfl ?_
              have v1 : okP need.length ((toPl l).set kk (⟨(toPl l)[kk].s, (toPl l)[kk].m - (pt : Int)⟩ : Pl) ++ [(⟨(toPl l)[kk].s, (pt : Int)⟩ : Pl)]) := okP_snoc (okP_set hL ⟨hpk.1, by show 0 ≤ (toPl l)[kk].m - (pt : Int); omega, by show (toPl l)[kk].m - (pt : Int) ≤ _; omega⟩) (by rw [List.length_set]; exact hl7) ⟨hpk.1, by show (0 : Int) ≤ (pt : Int); omega, by show (pt : Int) ≤ _; omega⟩
              have e1 := most_ok (vld_pr hV v1)
              have e2 := most_same hV v1 (fun t => parts_ofP hk0 _ t)
              rw [e1, e2]
              simp
theorem boxMore_law {x0 x1 x2 x3 : List PV} (h0 : TyL [.sl [.leaf (.int .i64)]] x0) (h1 : TyL [.sl [.leaf (.int .i64), .leaf (.int .i64)]] x1) (h2 : TyL [.leaf (.int .u8)] x2) (h3 : TyL [.leaf (.int .u16)] x3) : Pure Try.prog 9 [argP false x0, argP false x1, argP false x2, argP false x3] (.bool true) := by
  obtain ⟨need, rfl, _⟩ := sl_of (fun _ => i1_of) h0
  obtain ⟨l, rfl, _⟩ := sl_of (fun _ => pr_of) h1
  obtain ⟨o, rfl, ho⟩ := kint_of .u8 h2
  obtain ⟨u, rfl, hu⟩ := kint_of .u16 h3
  have a0 : 0 ≤ o := ho.1
  have a9 : o ≤ 255 := ho.2
  have b0 : 0 ≤ u := hu.1
  have b9 : u ≤ 65535 := hu.2
  obtain ⟨o, rfl⟩ := Int.eq_ofNat_of_zero_le a0
  obtain ⟨u, rfl⟩ := Int.eq_ofNat_of_zero_le b0
  exact BoxMore_ok need l o u (by omega) (by omega)
end Go.Proofs.Ytpamkihpffoflaa
