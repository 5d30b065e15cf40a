/-
  The law BoxGreedy.
-/
import Derived.Test.YtpamkihpffoflaaBxFactsE
import Derived.Test.YtpamkihpffoflaaBx20
import Derived.Test.YtpamkihpffoflaaBxH
import Derived.Test.YtpamkihpffoflaaAfG
set_option linter.unusedVariables false
set_option maxRecDepth 100000
set_option maxHeartbeats 4000000
set_option linter.unusedSimpArgs false
namespace Go.Proofs.Ytpamkihpffoflaa
open Go.AF
def gF (need : List Int) (b : Int) (rows : List (List Int)) (p s j : Nat) : Int := b * need[j]?.getD 0 - colS rows j p - if j < s + 1 then (rows[p]?.getD [])[j]?.getD 0 else 0
def gL (L : Nat) (f : Nat → Int) (k : Nat) : List Int := (List.range L).map fun j => if j < k then f j else 0
theorem gL_len (L : Nat) (f : Nat → Int) (k : Nat) : (gL L f k).length = L := by simp [gL]
theorem gL_0 (L : Nat) (f : Nat → Int) : List.replicate L (0 : Int) = gL L f 0 := by
  apply List.ext_getElem?
  intro s
  by_cases hs : s < L
  · simp [gL, hs]
  · simp [gL, hs]
theorem gL_set {L k : Nat} {f : Nat → Int} (hk : k < L) : (gL L f k).set k (f k) = gL L f (k + 1) := by
  apply List.ext_getElem?
  intro s
  rw [List.getElem?_set, gL_len]
  by_cases e : k = s
  · subst e; simp [hk, gL]
  · rw [if_neg e]
    by_cases hs : s < L
    · simp only [gL, List.getElem?_map, List.getElem?_range hs, Option.map_some]
      by_cases h1 : s < k
      · rw [if_pos h1, if_pos (by omega)]
      · rw [if_neg h1, if_neg (by omega)]
    · rw [List.getElem?_eq_none (by rw [gL_len]; omega), List.getElem?_eq_none (by rw [gL_len]; omega)]
theorem gL_all {L : Nat} {f : Nat → Int} {v : List Int} (hv : v.length = L) (h : ∀ j, j < L → v[j]?.getD 0 = f j) : gL L f L = v := by
  apply List.ext_getElem?
  intro s
  by_cases hs : s < L
  · have h1 := h s hs
    have hsv : s < v.length := by omega
    simp [hsv] at h1
    simp [gL, hs, hsv, h1]
  · rw [List.getElem?_eq_none (by rw [gL_len]; omega), List.getElem?_eq_none (by omega)]
theorem of_L (n : Nat) (l : List Pl) (R s : Nat) (hR : l.length = R) (hn : n ≤ 8) (hl : okP n l) (hs : s < 256) : Pure Try.prog 22 [.is (l.flatMap Pl.cells) R, .int .i64 (s : Int)] (.int .i64 (ofP l s)) := by
  subst hR; exact of_ok n l s hn hl hs
theorem fill_err {need : List Int} {l : List Pr} {b : Int} (h : fE need l b ≠ 0) : fR need l b = [] := by
  unfold fE fR fillR at *
  split at h
  · rename_i hc
    rw [if_pos hc]
    split at h
    · exact absurd rfl h
    · rename_i hz; rw [if_neg hz]
  · rename_i hc; rw [if_neg hc]
theorem fill_fine {need : List Int} {l : List Pr} {b : Int} (h : fE need l b = 0) : Vld need l ∧ (0 ≤ b ∧ b ≤ 1048576) ∧ canB need (toPl l) b = true := by
  unfold fE fillR at h
  split at h
  · rename_i hc
    obtain ⟨hV, hb⟩ := checkR_zero hc
    refine ⟨hV, hb, ?_⟩
    split at h
    · rename_i hz; exact decide_eq_true hz
    · cases h
  · rename_i hc; exact absurd h hc
theorem usedL_len (rows : List (List Int)) : (usedL rows).length = rows.length := by simp [usedL]
theorem BoxGreedy_ok (need : List Int) (l : List Pr) (b : Int) (o1 o2 : Nat) (ho1 : o1 ≤ 255) (ho2 : o2 ≤ 255) : Pure Try.prog 6 [intsV need, rawV l, .int .i64 b, .int .u8 (o1 : Int), .int .u8 (o2 : Int)] (.bool true) := by
  refine Pure.start (N := 212) Try.func6 rfl rfl (Nat.le_of_ble_eq_true rfl) ?_
  refine AWp.seq ?_
  refine AWp.region ?_
  refine AList.c 10 rfl rfl rfl (OpJ.assign rfl rfl) ?_
  refine AList.nil ?_
  refine AWp.seq ?_
  refine AWp.seq ?_
  refine AWp.region ?_
  refine AList.c 23 rfl rfl rfl (OpJ.move rfl rfl) ?_
  refine AList.c 24 rfl rfl rfl (OpJ.move rfl rfl) ?_
  refine AList.c 25 rfl rfl rfl (OpJ.callP (large_ok need l) rfl rfl rfl rfl rf10) ?_
  refine AList.c 26 rfl rfl rfl (OpJ.move rfl rfl) ?_
  refine AList.g 27 26 rfl rfl rfl rfl rfl rfl rfl [(1, _)] (fun h => And.intro (.inl rfl) (trivial)) (fun h => (OpJ.move rfl rfl)) ?_
  refine AList.g 28 26 rfl rfl rfl rfl rfl rfl rfl [(27, _)] (fun h => And.intro (.inr ⟨_, rfl, h⟩) (trivial)) (fun h => (OpJ.lenSlice rfl rfl sl23 rfl)) ?_
  refine AList.g 29 26 rfl rfl rfl rfl rfl rfl rfl [(28, _)] (fun h => And.intro (.inr ⟨_, rfl, h⟩) (trivial)) (fun h => (OpJ.eql rfl rfl rfl)) ?_
  refine AList.c 30 rfl rfl rfl (OpJ.or_ rfl rfl rfl ?_) ?_
  · first | (intro h; rw [h]; rfl) | (intro h; simp_all)
  refine AList.nil ?_
  refine AWp.cond _ rfl (fun hc0 => ?_) (fun hc0 => ?_)
  · skip
    refine AWp.seq ?_
    refine AWp.region ?_
    refine AList.c 31 rfl rfl rfl (OpJ.callP (awake_ok) rfl rfl rfl rfl rf11) ?_
    refine AList.c 10 rfl rfl rfl (OpJ.assign rfl rfl) ?_
    refine AList.nil ?_
    refine AWp.ret ?_
    refine Fin.oneE rfl rfl ?_
    rfl
  · skip
    simp only [Bool.or_eq_false_iff, decide_eq_false_iff_not] at hc0
    have hnl : need.length ≤ bigN := by unfold bigN; omega
    have hll : l.length ≤ bigN := by unfold bigN; omega
    have hl0 : 0 < l.length := by omega
    refine AWp.skip ?_
    refine AWp.seq ?_
    refine AWp.region ?_
    refine AList.c 33 rfl rfl rfl (OpJ.move rfl rfl) ?_
    refine AList.c 34 rfl rfl rfl (OpJ.move rfl rfl) ?_
    refine AList.c 35 rfl rfl rfl (OpJ.move rfl rfl) ?_
    refine AList.c 36 rfl rfl rfl (OpJ.callP (fill_n need l b hnl hll) rfl rfl rfl rfl rf16) ?_
    refine AList.c 32 rfl rfl rfl (OpJ.move rfl rfl) ?_
    refine AList.c 37 rfl rfl rfl (OpJ.extract rfl rfl rfl) ?_
    refine AList.c 38 rfl rfl rfl (OpJ.extract rfl rfl rfl) ?_
    refine AList.c 11 rfl rfl rfl (OpJ.assign rfl rfl) ?_
    refine AList.c 12 rfl rfl rfl (OpJ.assign rfl rfl) ?_
    refine AList.nil ?_
    refine AWp.seq ?_
    refine AWp.seq ?_
    refine AWp.region ?_
    refine AList.c 39 rfl rfl rfl (OpJ.move rfl rfl) ?_
    refine AList.c 40 rfl rfl rfl (OpJ.neq rfl rfl rfl) ?_
    refine AList.nil ?_
    refine AWp.cond _ rfl (fun hc1 => ?_) (fun hc1 => ?_)
    · skip
      have hfr := fill_err (show fE need l b ≠ 0 by simpa using hc1)
      refine AWp.seq ?_
      refine AWp.region ?_
      refine AList.c 41 rfl rfl rfl (OpJ.move rfl rfl) ?_
      refine AList.c 42 rfl rfl rfl (OpJ.lenSlice rfl rfl sl31 rfl) ?_
      refine AList.c 43 rfl rfl rfl (OpJ.eql rfl rfl rfl) ?_
      refine AList.c 44 rfl rfl rfl (OpJ.move rfl rfl) ?_
      refine AList.g 45 44 rfl rfl rfl rfl rfl rfl rfl [] (fun h => trivial) (fun h => (OpJ.callP (awake_ok) rfl rfl rfl rfl rf11)) ?_
      refine AList.c 46 rfl rfl rfl (OpJ.and_ rfl rfl rfl ?_) ?_
      · first | (intro h; rw [h]; rfl) | (intro h; simp_all)
      refine AList.c 10 rfl rfl rfl (OpJ.assign rfl rfl) ?_
      refine AList.nil ?_
      refine AWp.ret ?_
      refine Fin.oneE rfl rfl ?_
      rw [hfr]
      rfl
    · skip
      obtain ⟨hV, hb, hcb⟩ := fill_fine (show fE need l b = 0 by simpa using hc1)
      have hn : okN need := hV.2.2.1
      have h8 := hV.1.2
      have h0 := hV.1.1
      have hL := toPl_ok hV
      have hp := pow8 h8
      have hp1 := pow_pos' need.length
      have hA : allS need.length = 2 ^ need.length - 1 := rfl
      have hl8 := hL.1
      obtain ⟨hfE, hAs, hfR⟩ := fill_yes hV hb.1 hb.2 hcb
      have hLI := LInv.ok hL hn h8 hb.1 (by omega) (of_decide_eq_true hcb)
      have htl := toPl_len l
      have hal := hAs.len
      refine AWp.skip ?_
      refine AWp.seq ?_
      refine AWp.region ?_
      refine AList.c 48 rfl rfl rfl (OpJ.move rfl rfl) ?_
      refine AList.c 49 rfl rfl rfl (OpJ.move rfl rfl) ?_
      refine AList.c 50 rfl rfl rfl (OpJ.move rfl rfl) ?_
      refine AList.c 51 rfl rfl rfl (OpJ.move rfl rfl) ?_
      refine AList.c 52 rfl rfl rfl (OpJ.callP (good_raw hV b hb.1 hb.2 (fR need l b) hAs) rfl rfl rfl rfl rf24) ?_
      refine AList.c 47 rfl rfl rfl (OpJ.move rfl rfl) ?_
      refine AList.c 53 rfl rfl rfl (OpJ.extract rfl rfl rfl) ?_
      refine AList.c 54 rfl rfl rfl (OpJ.extract rfl rfl rfl) ?_
      refine AList.c 13 rfl rfl rfl (OpJ.assign rfl rfl) ?_
      refine AList.c 14 rfl rfl rfl (OpJ.assign rfl rfl) ?_
      refine AList.nil ?_
      refine AWp.seq ?_
      refine AWp.seq ?_
      refine AWp.region ?_
      refine AList.c 55 rfl rfl rfl (OpJ.move rfl rfl) ?_
      refine AList.c 56 rfl rfl rfl (OpJ.not_ rfl rfl) ?_
      refine AList.c 57 rfl rfl rfl (OpJ.move rfl rfl) ?_
      refine AList.g 58 57 rfl rfl rfl rfl rfl rfl rfl [(0, _)] (fun h => And.intro (.inl rfl) (trivial)) (fun h => (OpJ.move rfl rfl)) ?_
      refine AList.g 59 57 rfl rfl rfl rfl rfl rfl rfl [(1, _)] (fun h => And.intro (.inl rfl) (trivial)) (fun h => (OpJ.move rfl rfl)) ?_
      refine AList.g 60 57 rfl rfl rfl rfl rfl rfl rfl [(58, _), (59, _)] (fun h => And.intro (.inr ⟨_, rfl, h⟩) (And.intro (.inr ⟨_, rfl, h⟩) (trivial))) (fun h => (OpJ.callP (rvalid_ok need l hnl hll) rfl rfl rfl rfl rf21)) ?_
      refine AList.g 61 57 rfl rfl rfl rfl rfl rfl rfl [(60, _)] (fun h => And.intro (.inr ⟨_, rfl, h⟩) (trivial)) (fun h => (OpJ.not_ rfl rfl)) ?_
      refine AList.c 62 rfl rfl rfl (OpJ.or_ rfl rfl rfl ?_) ?_
      · first | (intro h; rw [h]; rfl) | (intro h; simp_all)
      refine AList.c 63 rfl rfl rfl (OpJ.move rfl rfl) ?_
      refine AList.g 64 63 rfl rfl rfl rfl rfl rfl rfl [(13, _)] (fun h => And.intro (.inl rfl) (trivial)) (fun h => (OpJ.move rfl rfl)) ?_
      refine AList.g 65 63 rfl rfl rfl rfl rfl rfl rfl [(64, _)] (fun h => And.intro (.inr ⟨_, rfl, h⟩) (trivial)) (fun h => (OpJ.lenSlice rfl rfl sl22 rfl)) ?_
      refine AList.g 66 63 rfl rfl rfl rfl rfl rfl rfl [(1, _)] (fun h => And.intro (.inl rfl) (trivial)) (fun h => (OpJ.move rfl rfl)) ?_
      refine AList.g 67 63 rfl rfl rfl rfl rfl rfl rfl [(66, _)] (fun h => And.intro (.inr ⟨_, rfl, h⟩) (trivial)) (fun h => (OpJ.lenSlice rfl rfl sl23 rfl)) ?_
      refine AList.g 68 63 rfl rfl rfl rfl rfl rfl rfl [(65, _), (67, _)] (fun h => And.intro (.inr ⟨_, rfl, h⟩) (And.intro (.inr ⟨_, rfl, h⟩) (trivial))) (fun h => (OpJ.neq rfl rfl rfl)) ?_
      refine AList.c 69 rfl rfl rfl (OpJ.or_ rfl rfl rfl ?_) ?_
      · first | (intro h; rw [h]; rfl) | (intro h; simp_all)
      refine AList.nil ?_
      refine AWp.cond _ rfl (fun hc2 => ?_) (fun hc2 => ?_)
      · skip
        simp only [usedL_len, Bool.or_eq_true, Bool.not_eq_true', decide_eq_true_eq, decide_eq_false_iff_not, Bool.not_true, Bool.false_eq_true, false_or] at hc2
        rcases hc2 with h | h
        · exact absurd hV h
        · exact absurd (show ((fR need l b).length : Int) = (l.length : Int) by omega) h
      · skip
        rw [toPl_raw hV]
        obtain ⟨pp, hpp⟩ : ∃ pp, pp = o1 % (toPl l).length := ⟨_, rfl⟩
        obtain ⟨ss, hss⟩ : ∃ ss, ss = o2 % need.length := ⟨_, rfl⟩
        have hp0 : pp < (toPl l).length := by rw [hpp]; exact Nat.mod_lt _ (by omega)
        have hs0 : ss < need.length := by rw [hss]; exact Nat.mod_lt _ (by omega)
        have hpi := hL.2 (toPl l)[pp] (List.getElem_mem _)
        obtain ⟨hp1, hre, hrs, hrp⟩ := hAs.row hL hp0
        have hpe : (toPl l)[pp]?.getD ⟨0, 0⟩ = (toPl l)[pp] := by simp [hp0]
        rw [hpe] at hrs
        refine AWp.skip ?_
        refine AWp.seq ?_
        refine AWp.regionDraw 12 mixed (by kernel_rfl) (by decide) ?_
        refine AQuiet.cons 70 rfl rfl rfl (OpJ.move rfl rfl) ?_
        refine AQuiet.cons 71 rfl rfl rfl (OpJ.convInt rfl rfl (by rw [un5]; rfl) un3 (i64ok ?_)) ?_
        · omega
        refine AQuiet.cons 72 rfl rfl rfl (OpJ.move rfl rfl) ?_
        refine AQuiet.cons 73 rfl rfl rfl (OpJ.lenSlice rfl rfl sl23 rfl) ?_
        refine AQuiet.cons 74 rfl rfl rfl (OpJ.rem (m := (pp : Int)) rfl rfl rfl ?_ ?_) ?_
        · omega
        · rw [hpp]; exact tmodN _ _
        refine AQuiet.cons 75 rfl rfl rfl (OpJ.move rfl rfl) ?_
        refine AQuiet.cons 76 rfl rfl rfl (OpJ.convInt rfl rfl (by rw [un5]; rfl) un3 (i64ok ?_)) ?_
        · omega
        refine AQuiet.cons 77 rfl rfl rfl (OpJ.move rfl rfl) ?_
        refine AQuiet.cons 78 rfl rfl rfl (OpJ.lenSlice rfl rfl sl22 rfl) ?_
        refine AQuiet.cons 79 rfl rfl rfl (OpJ.rem (m := (ss : Int)) rfl rfl rfl ?_ ?_) ?_
        · omega
        · rw [hss]; exact tmodN _ _
        refine AQuiet.cons 15 rfl rfl rfl (OpJ.assign rfl rfl) ?_
        refine AQuiet.cons 16 rfl rfl rfl (OpJ.assign rfl rfl) ?_
        refine AQuiet.nil ?_
        refine AList.nil ?_
        refine AWp.seq ?_
        refine AWp.seq ?_
        refine AWp.region ?_
        refine AList.c 80 rfl rfl rfl (OpJ.move rfl rfl) ?_
        refine AList.c 81 rfl rfl rfl (OpJ.move rfl rfl) ?_
        refine AList.c 82 rfl rfl rfl (OpJ.indexEl rfl rfl rfl sl23 el23 rfl (fun _ => rfl) (by decide) hp0) ?_
        refine AList.c 83 rfl rfl rfl (OpJ.fieldAddr rfl rfl fd46_0 rfl) ?_
        refine AList.c 84 rfl rfl rfl (OpJ.load rfl rfl ty3 rfl) ?_
        refine AList.c 85 rfl rfl rfl (OpJ.move rfl rfl) ?_
        refine AList.c 86 rfl rfl rfl (OpJ.callP (has_ok (toPl l)[pp].s ss (by omega) (by omega)) rfl rfl rfl rfl rf25) ?_
        refine AList.c 87 rfl rfl rfl (OpJ.not_ rfl rfl) ?_
        refine AList.nil ?_
        refine AWp.cond _ rfl (fun hc3 => ?_) (fun hc3 => ?_)
        · skip
          refine AWp.seq ?_
          refine AWp.region ?_
          refine AList.c 88 rfl rfl rfl (OpJ.callP (awake_ok) rfl rfl rfl rfl rf11) ?_
          refine AList.c 10 rfl rfl rfl (OpJ.assign rfl rfl) ?_
          refine AList.nil ?_
          refine AWp.ret ?_
          refine Fin.oneE rfl rfl ?_
          rfl
        · skip
          have hbit : (toPl l)[pp].s.testBit ss = true := by simpa using hc3
          refine AWp.skip ?_
          refine AWp.seq ?_
          refine AWp.region ?_
          refine AList.c 89 rfl rfl rfl (OpJ.move rfl rfl) ?_
          refine AList.c 90 rfl rfl rfl (OpJ.lenSlice rfl rfl sl22 rfl) ?_
          refine AList.c 91 rfl rfl rfl (OpJ.makeSlice (n := need.length) (c := need.length) rfl rfl rfl slz22 by3 (by decide) (Nat.le_refl _) (by omega)) ?_
          rw [repl_i1, gL_0 need.length (gF need b (fR need l b) pp ss)]
          refine AList.c 17 rfl rfl rfl (OpJ.assign rfl rfl) ?_
          refine AList.nil ?_
          refine AWp.seq ?_
          refine AWp.region ?_
          refine AList.c 92 rfl rfl rfl (OpJ.move rfl rfl) ?_
          refine AList.c 93 rfl rfl rfl (OpJ.move rfl rfl) ?_
          refine AList.c 94 rfl rfl rfl (OpJ.indexEl rfl rfl rfl sl23 el23 rfl (fun _ => rfl) (by decide) hp0) ?_
          refine AList.c 95 rfl rfl rfl (OpJ.fieldAddr rfl rfl fd46_1 rfl) ?_
          refine AList.c 96 rfl rfl rfl (OpJ.load rfl rfl ty3 rfl) ?_
          refine AList.c 18 rfl rfl rfl (OpJ.assign rfl rfl) ?_
          refine AList.nil ?_
          refine AWp.seq ?_
          refine AWp.seq ?_
          refine AWp.region ?_
          refine AList.c 19 rfl rfl rfl (OpJ.assign rfl rfl) ?_
          refine AList.nil ?_
          refine AWp.block ?_
          refine AWp.loopHL [0, 1, 2, 10, 11, 15, 16, 17, 21, 22, 159, 160, 161, 162, 163, 164, 165, 166, 167, 168, 169, 170, 171, 172, 173, 174, 175, 176, 177, 178, 179, 180, 181, 182, 183, 184, 185, 186, 187, 188, 189, 190, 191, 192, 193, 194, 195, 196, 197, 198, 199, 200, 201, 202, 203, 204, 205, 206, 207, 208, 209, 210, 211] (fun g => [(19, .p (.int .i64 ((g : Nat) : Int))), (18, .p (.int .i64 ((toPl l)[pp].m - (((fR need l b)[pp]).take (min g (ss + 1))).sum)))]) (fun g => [.row (((gL need.length (gF need b (fR need l b) pp ss) g).flatMap i1).map .p) 3]) (fun g => g ≤ need.length) (fun g => need.length - g) 0 (Nat.zero_le _) (by rw [Nat.zero_min, List.take_zero, List.sum_nil, Int.sub_zero]; exact To.sub (Sub.chk (Sub.cons rfl (Sub.cons rfl Sub.nil)))) (fun k hg => ?_)
          refine AWp.seq ?_
          refine AWp.seq ?_
          refine AWp.region ?_
          refine AList.c 97 rfl rfl rfl (OpJ.move rfl rfl) ?_
          refine AList.c 98 rfl rfl rfl (OpJ.move rfl rfl) ?_
          refine AList.c 99 rfl rfl rfl (OpJ.lenSlice rfl rfl sl22 rfl) ?_
          refine AList.c 100 rfl rfl rfl (OpJ.lss rfl rfl rfl) ?_
          refine AList.nil ?_
          refine AWp.cond _ rfl (fun hc4 => ?_) (fun hc4 => ?_)
          · skip
            have hk0 : k < need.length := by have h := of_decide_eq_true hc4; omega
            have hkl : k < (gL need.length (gF need b (fR need l b) pp ss) k).length := by rw [gL_len]; exact hk0
            have hkg : ∀ x, k < ((gL need.length (gF need b (fR need l b) pp ss) k).set k x).length := fun x => by rw [List.length_set, gL_len]; exact hk0
            have hnk := hn need[k] (List.getElem_mem _)
            have hmb := mul_B hnk.1 hnk.2 hb.1 (by omega)
            have hkp : k < (fR need l b)[pp].length := by omega
            have hxp := hre (fR need l b)[pp][k] (List.getElem_mem _)
            have hcp := hAs.colB hL k pp (by omega)
            have hps := psum (fun x hx => (hre x hx).1) (min k (ss + 1))
            have hgf : (gF need b (fR need l b) pp ss) k = b * need[k] - colS (fR need l b) k pp - if k < ss + 1 then (fR need l b)[pp][k] else 0 := by unfold gF; simp [hk0, hp1, hkp]
            refine AWp.skip ?_
            refine AWp.seq ?_
            refine AWp.block ?_
            refine AWp.seq ?_
            refine AWp.region ?_
            refine AList.c 103 rfl rfl rfl (OpJ.move rfl rfl) ?_
            refine AList.c 104 rfl rfl rfl (OpJ.move rfl rfl) ?_
            refine AList.c 105 rfl rfl rfl (OpJ.move rfl rfl) ?_
            refine AList.c 106 rfl rfl rfl (OpJ.move rfl rfl) ?_
            refine AList.c 107 rfl rfl rfl (OpJ.move rfl rfl) ?_
            refine AList.c 108 rfl rfl rfl (OpJ.indexEl rfl rfl rfl sl22 el22 rfl (fun _ => rfl) (by decide) hk0) ?_
            refine AList.c 109 rfl rfl rfl (OpJ.load rfl rfl ty3 rfl) ?_
            refine AList.c 110 rfl rfl rfl (OpJ.mul rfl rfl rfl (i64ok ?_)) ?_
            · omega
            refine AList.c 111 rfl rfl rfl (OpJ.indexRow rfl rfl rfl sl22 el22 hk0) ?_
            refine AList.c0 rfl rfl (OpJ.storeRow (f := i1) (c := 1) (k := k) (j := 0) (xs := (gL need.length (gF need b (fR need l b) pp ss) k)) (z := (b * need[k])) (ws := [_]) rfl rfl rfl rfl rfl ty3 rfl rfl rfl (by omega) (fun _ => rfl) hkl (Nat.le_of_ble_eq_true rfl) rfl) ?_
            refine AList.nil ?_
            refine AWp.seq ?_
            refine AWp.seq ?_
            refine AWp.region ?_
            refine AList.c 20 rfl rfl rfl (OpJ.assign rfl rfl) ?_
            refine AList.nil ?_
            refine AWp.block ?_
            refine AWp.loopHL [0, 1, 2, 10, 11, 15, 16, 17, 18, 19, 21, 22, 97, 98, 99, 100, 101, 102, 103, 104, 105, 106, 107, 108, 109, 110, 111, 132, 133, 134, 135, 136, 137, 138, 139, 140, 141, 142, 143, 144, 145, 146, 147, 148, 149, 150, 151, 152, 153, 154, 155, 156, 157, 158, 159, 160, 161, 162, 163, 164, 165, 166, 167, 168, 169, 170, 171, 172, 173, 174, 175, 176, 177, 178, 179, 180, 181, 182, 183, 184, 185, 186, 187, 188, 189, 190, 191, 192, 193, 194, 195, 196, 197, 198, 199, 200, 201, 202, 203, 204, 205, 206, 207, 208, 209, 210, 211] (fun g => [(20, .p (.int .i64 ((g : Nat) : Int)))]) (fun g => [.row ((((gL need.length (gF need b (fR need l b) pp ss) k).set k (b * need[k] - colS (fR need l b) k g)).flatMap i1).map .p) 3]) (fun g => g ≤ pp) (fun g => pp - g) 0 (Nat.zero_le _) (by rw [show colS (fR need l b) k 0 = 0 from rfl, Int.sub_zero]; exact To.sub (Sub.chk (Sub.cons rfl Sub.nil))) (fun i hh => ?_)
            refine AWp.seq ?_
            refine AWp.seq ?_
            refine AWp.region ?_
            refine AList.c 112 rfl rfl rfl (OpJ.move rfl rfl) ?_
            refine AList.c 113 rfl rfl rfl (OpJ.move rfl rfl) ?_
            refine AList.c 114 rfl rfl rfl (OpJ.lss rfl rfl rfl) ?_
            refine AList.nil ?_
            refine AWp.cond _ rfl (fun hc5 => ?_) (fun hc5 => ?_)
            · skip
              have hi0 : i < pp := by have h := of_decide_eq_true hc5; omega
              obtain ⟨hi1, hie, _, hri⟩ := hAs.row hL (show i < (toPl l).length by omega)
              have hki : k < (fR need l b)[i].length := by omega
              have hxi := hie (fR need l b)[i][k] (List.getElem_mem _)
              have hci := hAs.colB hL k i (by omega)
              have hcs := colS_succ hi1 hki
              refine AWp.skip ?_
              refine AWp.seq ?_
              refine AWp.block ?_
              refine AWp.regionDraw 15 mixed (by kernel_rfl) (by decide) ?_
              refine AQuiet.cons 117 rfl rfl rfl (OpJ.move rfl rfl) ?_
              refine AQuiet.cons 118 rfl rfl rfl (OpJ.move rfl rfl) ?_
              refine AQuiet.cons 119 rfl rfl rfl (OpJ.move rfl rfl) ?_
              refine AQuiet.cons 120 rfl rfl rfl (OpJ.move rfl rfl) ?_
              refine AQuiet.cons 121 rfl rfl rfl (OpJ.indexRow rfl rfl rfl sl22 el22 hk0) ?_
              refine AQuiet.cons 122 rfl rfl rfl (OpJ.loadFlat (f := i1) (c := 1) (k := k) (j := 0) (xs := ((gL need.length (gF need b (fR need l b) pp ss) k).set k (b * need[k] - colS (fR need l b) k i))) rfl rfl ty3 rfl rfl (by omega) (fun _ => rfl) (hkg _) (by decide) (show _ = PV.int .i64 (b * need[k] - colS (fR need l b) k i) from by rw [List.getElem_set_self]; rfl)) ?_
              refine AQuiet.cons 123 rfl rfl rfl (OpJ.move rfl rfl) ?_
              refine AQuiet.cons 124 rfl rfl rfl (OpJ.move rfl rfl) ?_
              refine AQuiet.cons 125 rfl rfl rfl (OpJ.indexEl rfl rfl rfl sl31 el31 rfl (fun _ => rfl) (by decide) hi1) ?_
              refine AQuiet.cons 126 rfl rfl rfl (OpJ.load rfl rfl ty22 rfl) ?_
              refine AQuiet.cons 127 rfl rfl rfl (OpJ.move rfl rfl) ?_
              refine AQuiet.cons 128 rfl rfl rfl (OpJ.indexEl rfl rfl rfl sl22 el22 hri.symm (fun _ => rfl) (by decide) hki) ?_
              refine AQuiet.cons 129 rfl rfl rfl (OpJ.load rfl rfl ty3 rfl) ?_
              refine AQuiet.cons 130 rfl rfl rfl (OpJ.sub_ (m := (b * need[k] - colS (fR need l b) k (i + 1))) rfl rfl rfl ((i64ok ?_).trans ?_)) ?_
              · omega
              · omega
              refine AQuiet.cons 131 rfl rfl rfl (OpJ.indexRow rfl rfl rfl sl22 el22 hk0) ?_
              refine AQuiet.nil ?_
              refine AList.c0 rfl rfl (OpJ.storeRow (f := i1) (c := 1) (k := k) (j := 0) (xs := ((gL need.length (gF need b (fR need l b) pp ss) k).set k (b * need[k] - colS (fR need l b) k i))) (z := (b * need[k] - colS (fR need l b) k (i + 1))) (ws := [_]) rfl rfl rfl rfl rfl ty3 rfl rfl rfl (by omega) (fun _ => rfl) (hkg _) (Nat.le_of_ble_eq_true rfl) rfl) ?_
              refine AList.nil ?_
              refine AWp.region ?_
              refine AList.c 115 rfl rfl rfl (OpJ.move rfl rfl) ?_
              refine AList.c 116 rfl rfl rfl (OpJ.add rfl rfl rfl (i64ok ?_)) ?_
              · omega
              refine AList.c 20 rfl rfl rfl (OpJ.assign rfl rfl) ?_
              refine AList.nil ?_
              refine ⟨i + 1, ?_, ?_, ?_⟩
              · omega
              · omega
              rw [List.set_set]
              exact To.sub (by repeat (first | exact Sub.nil | refine Sub.cons rfl ?_))
            · skip
              obtain rfl : pp = i := by have h := of_decide_eq_false hc5; omega
              refine AWp.exit ?_
              refine AWp.seq ?_
              refine AWp.region ?_
              refine AList.c 132 rfl rfl rfl (OpJ.move rfl rfl) ?_
              refine AList.c 133 rfl rfl rfl (OpJ.move rfl rfl) ?_
              refine AList.c 134 rfl rfl rfl (OpJ.leq rfl rfl rfl) ?_
              refine AList.nil ?_
              refine AWp.cond _ rfl (fun hc6 => ?_) (fun hc6 => ?_)
              · skip
                have hks : k < ss + 1 := by have h := of_decide_eq_true hc6; omega
                refine AWp.seq ?_
                refine AWp.regionDraw 15 mixed (by kernel_rfl) (by decide) ?_
                refine AQuiet.cons 135 rfl rfl rfl (OpJ.move rfl rfl) ?_
                refine AQuiet.cons 136 rfl rfl rfl (OpJ.move rfl rfl) ?_
                refine AQuiet.cons 137 rfl rfl rfl (OpJ.move rfl rfl) ?_
                refine AQuiet.cons 138 rfl rfl rfl (OpJ.move rfl rfl) ?_
                refine AQuiet.cons 139 rfl rfl rfl (OpJ.indexRow rfl rfl rfl sl22 el22 hk0) ?_
                refine AQuiet.cons 140 rfl rfl rfl (OpJ.loadFlat (f := i1) (c := 1) (k := k) (j := 0) (xs := ((gL need.length (gF need b (fR need l b) pp ss) k).set k (b * need[k] - colS (fR need l b) k pp))) rfl rfl ty3 rfl rfl (by omega) (fun _ => rfl) (hkg _) (by decide) (show _ = PV.int .i64 (b * need[k] - colS (fR need l b) k pp) from by rw [List.getElem_set_self]; rfl)) ?_
                refine AQuiet.cons 141 rfl rfl rfl (OpJ.move rfl rfl) ?_
                refine AQuiet.cons 142 rfl rfl rfl (OpJ.move rfl rfl) ?_
                refine AQuiet.cons 143 rfl rfl rfl (OpJ.indexEl rfl rfl rfl sl31 el31 rfl (fun _ => rfl) (by decide) hp1) ?_
                refine AQuiet.cons 144 rfl rfl rfl (OpJ.load rfl rfl ty22 rfl) ?_
                refine AQuiet.cons 145 rfl rfl rfl (OpJ.move rfl rfl) ?_
                refine AQuiet.cons 146 rfl rfl rfl (OpJ.indexEl rfl rfl rfl sl22 el22 hrp.symm (fun _ => rfl) (by decide) hkp) ?_
                refine AQuiet.cons 147 rfl rfl rfl (OpJ.load rfl rfl ty3 rfl) ?_
                refine AQuiet.cons 148 rfl rfl rfl (OpJ.sub_ rfl rfl rfl (i64ok ?_)) ?_
                · omega
                refine AQuiet.cons 149 rfl rfl rfl (OpJ.indexRow rfl rfl rfl sl22 el22 hk0) ?_
                refine AQuiet.nil ?_
                refine AList.c0 rfl rfl (OpJ.storeRow (f := i1) (c := 1) (k := k) (j := 0) (xs := ((gL need.length (gF need b (fR need l b) pp ss) k).set k (b * need[k] - colS (fR need l b) k pp))) (z := ((b * need[k] - colS (fR need l b) k pp) - (fR need l b)[pp][k])) (ws := [_]) rfl rfl rfl rfl rfl ty3 rfl rfl rfl (by omega) (fun _ => rfl) (hkg _) (Nat.le_of_ble_eq_true rfl) rfl) ?_
                refine AList.nil ?_
                refine AWp.region ?_
                refine AList.c 150 rfl rfl rfl (OpJ.move rfl rfl) ?_
                refine AList.c 151 rfl rfl rfl (OpJ.move rfl rfl) ?_
                refine AList.c 152 rfl rfl rfl (OpJ.move rfl rfl) ?_
                refine AList.c 153 rfl rfl rfl (OpJ.indexEl rfl rfl rfl sl31 el31 rfl (fun _ => rfl) (by decide) hp1) ?_
                refine AList.c 154 rfl rfl rfl (OpJ.load rfl rfl ty22 rfl) ?_
                refine AList.c 155 rfl rfl rfl (OpJ.move rfl rfl) ?_
                refine AList.c 156 rfl rfl rfl (OpJ.indexEl rfl rfl rfl sl22 el22 hrp.symm (fun _ => rfl) (by decide) hkp) ?_
                refine AList.c 157 rfl rfl rfl (OpJ.load rfl rfl ty3 rfl) ?_
                refine AList.c 158 rfl rfl rfl (OpJ.sub_ rfl rfl rfl (i64ok ?_)) ?_
                · omega
                refine AList.c 18 rfl rfl rfl (OpJ.assign rfl rfl) ?_
                refine AList.nil ?_
                refine AWp.region ?_
                refine AList.c 101 rfl rfl rfl (OpJ.move rfl rfl) ?_
                refine AList.c 102 rfl rfl rfl (OpJ.add rfl rfl rfl (i64ok ?_)) ?_
                · omega
                refine AList.c 19 rfl rfl rfl (OpJ.assign rfl rfl) ?_
                refine AList.nil ?_
                refine ⟨k + 1, ?_, ?_, ?_⟩
                · omega
                · omega
                rw [if_pos hks] at hgf
                rw [List.set_set, ← hgf, gL_set hk0]
                refine To.sub (Sub.cons rfl (Sub.cons ?_ (by repeat (first | exact Sub.nil | refine Sub.cons rfl ?_))))
                rw [Nat.min_eq_left (show k + 1 ≤ ss + 1 by omega), take_sum hkp, Nat.min_eq_left (show k ≤ ss + 1 by omega), Int.sub_sub]; rfl
              · skip
                have hks : ¬ k < ss + 1 := by have h := of_decide_eq_false hc6; omega
                refine AWp.skip ?_
                refine AWp.region ?_
                refine AList.c 101 rfl rfl rfl (OpJ.move rfl rfl) ?_
                refine AList.c 102 rfl rfl rfl (OpJ.add rfl rfl rfl (i64ok ?_)) ?_
                · omega
                refine AList.c 19 rfl rfl rfl (OpJ.assign rfl rfl) ?_
                refine AList.nil ?_
                refine ⟨k + 1, ?_, ?_, ?_⟩
                · omega
                · omega
                rw [if_neg hks, Int.sub_zero] at hgf
                rw [← hgf, gL_set hk0]
                refine To.sub (Sub.cons rfl (Sub.cons ?_ (by repeat (first | exact Sub.nil | refine Sub.cons rfl ?_))))
                rw [Nat.min_eq_right (show ss + 1 ≤ k + 1 by omega), Nat.min_eq_right (show ss + 1 ≤ k by omega)]; rfl
          · skip
            obtain rfl : k = need.length := by have h := of_decide_eq_false hc4; omega
            have hF := midF_inv hL hLI hp0 (ss + 1) (by omega)
            have e1 : (gL need.length (gF need b (fR need l b) pp ss) need.length) = (midF (toPl l) need.length (timesV need b) pp (ss + 1)).v := gL_all hF.len (fun j hj => by rw [mid_left hL hLI hp0 (ss + 1) (by omega) j, timesV_get1, ← hfR]; unfold gF; have h := rowsF_get (l := toPl l) (L := need.length) (v := timesV need b) (toPl l).length hp0; rw [← hfR] at h; rw [h])
            have e2 : ((toPl l)[pp].m - (((fR need l b)[pp]).take (min need.length (ss + 1))).sum) = (midF (toPl l) need.length (timesV need b) pp (ss + 1)).m := by rw [mid_own hL hLI hp0 (ss + 1) (by omega)]; have h := rowsF_get (l := toPl l) (L := need.length) (v := timesV need b) (toPl l).length hp0; rw [← hfR, List.getElem?_eq_getElem hp1] at h; simp only [Option.getD_some] at h; rw [h, Nat.min_eq_right (by omega)]
            rw [e1, e2]
            have hsv : ss < (midF (toPl l) need.length (timesV need b) pp (ss + 1)).v.length := by rw [hF.len]; exact hs0
            have hsl : ss < ((midF (toPl l) need.length (timesV need b) pp (ss + 1)).v.set ss ((midF (toPl l) need.length (timesV need b) pp (ss + 1)).v[ss]?.getD 0 - 1)).length := by rw [List.length_set]; exact hsv
            have hvs := hF.pos _ (List.getElem_mem hsv)
            have hve : (midF (toPl l) need.length (timesV need b) pp (ss + 1)).v[ss]?.getD 0 = (midF (toPl l) need.length (timesV need b) pp (ss + 1)).v[ss] := by simp [hsv]
            have hFm := hF.m0
            refine AWp.exit ?_
            refine AWp.seq ?_
            refine AWp.region ?_
            refine AList.c 159 rfl rfl rfl (OpJ.move rfl rfl) ?_
            refine AList.c 160 rfl rfl rfl (OpJ.move rfl rfl) ?_
            refine AList.c 161 rfl rfl rfl (OpJ.indexRow rfl rfl rfl sl22 el22 hs0) ?_
            refine AList.c 162 rfl rfl rfl (OpJ.loadFlat (f := i1) (c := 1) (k := ss) (j := 0) (xs := (midF (toPl l) need.length (timesV need b) pp (ss + 1)).v) rfl rfl ty3 rfl rfl (by omega) (fun _ => rfl) hsv (by decide) (show _ = PV.int .i64 ((midF (toPl l) need.length (timesV need b) pp (ss + 1)).v[ss]?.getD 0) from by rw [List.getElem?_eq_getElem hsv]; rfl)) ?_
            refine AList.c 163 rfl rfl rfl (OpJ.sub_ rfl rfl rfl (i64ok ?_)) ?_
            · omega
            refine AList.c 164 rfl rfl rfl (OpJ.indexRow rfl rfl rfl sl22 el22 hs0) ?_
            refine AList.c0 rfl rfl (OpJ.storeRow (f := i1) (c := 1) (k := ss) (j := 0) (xs := (midF (toPl l) need.length (timesV need b) pp (ss + 1)).v) (z := ((midF (toPl l) need.length (timesV need b) pp (ss + 1)).v[ss]?.getD 0 - 1)) (ws := [_]) rfl rfl rfl rfl rfl ty3 rfl rfl rfl (by omega) (fun _ => rfl) hsv (Nat.le_of_ble_eq_true rfl) rfl) ?_
            refine AList.nil ?_
            refine AWp.seq ?_
            refine AWp.region ?_
            refine AList.c 165 rfl rfl rfl (OpJ.move rfl rfl) ?_
            refine AList.c 166 rfl rfl rfl (OpJ.sub_ rfl rfl rfl (i64ok ?_)) ?_
            · omega
            refine AList.c 18 rfl rfl rfl (OpJ.assign rfl rfl) ?_
            refine AList.nil ?_
            refine AWp.seq ?_
            refine AWp.seq ?_
            refine AWp.region ?_
            refine AList.c 167 rfl rfl rfl (OpJ.move rfl rfl) ?_
            refine AList.c 168 rfl rfl rfl (OpJ.lss rfl rfl rfl) ?_
            refine AList.c 169 rfl rfl rfl (OpJ.move rfl rfl) ?_
            refine AList.g 170 169 rfl rfl rfl rfl rfl rfl rfl [(17, _)] (fun h => And.intro (.inl rfl) (trivial)) (fun h => (OpJ.move rfl rfl)) ?_
            refine AList.g 171 169 rfl rfl rfl rfl rfl rfl rfl [(16, _)] (fun h => And.intro (.inl rfl) (trivial)) (fun h => (OpJ.move rfl rfl)) ?_
            refine AList.g 172 169 rfl rfl rfl rfl rfl rfl rfl [(170, _), (171, _)] (fun h => And.intro (.inr ⟨_, rfl, h⟩) (And.intro (.inr ⟨_, rfl, h⟩) (trivial))) (fun h => (OpJ.indexRow rfl rfl rfl sl22 el22 hs0)) ?_
            refine AList.g 173 169 rfl rfl rfl rfl rfl rfl rfl [(172, _)] (fun h => And.intro (.inr ⟨_, rfl, h⟩) (trivial)) (fun h => (OpJ.loadFlat (f := i1) (c := 1) (k := ss) (j := 0) (xs := ((midF (toPl l) need.length (timesV need b) pp (ss + 1)).v.set ss ((midF (toPl l) need.length (timesV need b) pp (ss + 1)).v[ss]?.getD 0 - 1))) rfl rfl ty3 rfl rfl (by omega) (fun _ => rfl) hsl (by decide) (show _ = PV.int .i64 ((midF (toPl l) need.length (timesV need b) pp (ss + 1)).v[ss]?.getD 0 - 1) from by rw [List.getElem_set_self]; rfl))) ?_
            refine AList.g 174 169 rfl rfl rfl rfl rfl rfl rfl [(173, _)] (fun h => And.intro (.inr ⟨_, rfl, h⟩) (trivial)) (fun h => (OpJ.lss rfl rfl rfl)) ?_
            refine AList.c 175 rfl rfl rfl (OpJ.or_ rfl rfl rfl ?_) ?_
            · first | (intro h; rw [h]; rfl) | (intro h; simp_all)
            refine AList.nil ?_
            refine AWp.cond _ rfl (fun hc7 => ?_) (fun hc7 => ?_)
            · skip
              refine AWp.seq ?_
              refine AWp.region ?_
              refine AList.c 176 rfl rfl rfl (OpJ.callP (awake_ok) rfl rfl rfl rfl rf11) ?_
              refine AList.c 10 rfl rfl rfl (OpJ.assign rfl rfl) ?_
              refine AList.nil ?_
              refine AWp.ret ?_
              refine Fin.oneE rfl rfl ?_
              rfl
            · skip
              simp only [Bool.or_eq_false_iff, decide_eq_false_iff_not] at hc7
              have hp8 := pow8 (show ss ≤ 8 by omega)
              have hps2 := pow_pos' ss
              have hqd := Nat.div_le_self (toPl l)[pp].s (2 * 2 ^ ss)
              have hqm := Nat.div_mul_le_self (toPl l)[pp].s (2 * 2 ^ ss)
              have he2 : 2 * 2 ^ ss = 2 ^ (ss + 1) := by rw [Nat.pow_succ, Nat.mul_comm]
              have hlen2 : ((midF (toPl l) need.length (timesV need b) pp (ss + 1)).v.set ss ((midF (toPl l) need.length (timesV need b) pp (ss + 1)).v[ss]?.getD 0 - 1)).length = need.length := by rw [List.length_set]; exact hF.len
              have hok2 : okV ((midF (toPl l) need.length (timesV need b) pp (ss + 1)).v.set ss ((midF (toPl l) need.length (timesV need b) pp (ss + 1)).v[ss]?.getD 0 - 1)) := ⟨by rw [hlen2]; exact h8, fun x hx => by rcases List.mem_or_eq_of_mem_set hx with h | rfl; exact hF.pos x h; omega⟩
              have hokr : okP need.length ((⟨((toPl l)[pp].s / (2 * 2 ^ ss) * (2 * 2 ^ ss)), (midF (toPl l) need.length (timesV need b) pp (ss + 1)).m - 1⟩ : Pl) :: (toPl l).drop (pp + 1)) := ⟨by rw [List.length_cons, List.length_drop]; omega, fun q hq => by rcases List.mem_cons.1 hq with rfl | hq; exact ⟨by show ((toPl l)[pp].s / (2 * 2 ^ ss) * (2 * 2 ^ ss)) < _; omega, by show 0 ≤ (midF (toPl l) need.length (timesV need b) pp (ss + 1)).m - 1; omega, by show (midF (toPl l) need.length (timesV need b) pp (ss + 1)).m - 1 ≤ _; omega⟩; exact (okP_drop hL (pp + 1)).2 q hq⟩
              obtain ⟨t, ht1, ht2, ht3⟩ := greedy_max hL hLI hp0 hs0 hbit (by omega) (by omega)
              rw [← he2] at ht3
              refine AWp.skip ?_
              refine AWp.seq ?_
              refine AWp.regionDraw 13 mixed (by kernel_rfl) (by decide) ?_
              refine AQuiet.cons 177 rfl rfl rfl (OpJ.move rfl rfl) ?_
              refine AQuiet.cons 178 rfl rfl rfl (OpJ.move rfl rfl) ?_
              refine AQuiet.cons 179 rfl rfl rfl (OpJ.indexEl rfl rfl rfl sl23 el23 rfl (fun _ => rfl) (by decide) hp0) ?_
              refine AQuiet.cons 180 rfl rfl rfl (OpJ.fieldAddr rfl rfl fd46_0 rfl) ?_
              refine AQuiet.cons 181 rfl rfl rfl (OpJ.load rfl rfl ty3 rfl) ?_
              refine AQuiet.cons 182 rfl rfl rfl (OpJ.move rfl rfl) ?_
              refine AQuiet.cons 183 rfl rfl rfl (OpJ.shlN 2 ss rfl rfl rfl (by show _ ≤ (64 : Nat); omega) (show ((2 * 2 ^ ss : Nat) : Int) ≤ 9223372036854775807 by omega)) ?_
              refine AQuiet.cons 184 rfl rfl rfl (OpJ.quo (m := (((toPl l)[pp].s / (2 * 2 ^ ss) : Nat) : Int)) rfl rfl rfl ?_ ((i64ok ?_).trans ?_)) ?_
              · omega
              · show _ ≤ Int.tdiv ((toPl l)[pp].s : Int) ((2 * 2 ^ ss : Nat) : Int) ∧ Int.tdiv ((toPl l)[pp].s : Int) ((2 * 2 ^ ss : Nat) : Int) ≤ _; rw [show Int.tdiv ((toPl l)[pp].s : Int) ((2 * 2 ^ ss : Nat) : Int) = (((toPl l)[pp].s / (2 * 2 ^ ss) : Nat) : Int) from rfl]; generalize (toPl l)[pp].s / (2 * 2 ^ ss) = d at hqd ⊢; omega
              · rfl
              refine AQuiet.cons 185 rfl rfl rfl (OpJ.move rfl rfl) ?_
              refine AQuiet.cons 186 rfl rfl rfl (OpJ.shlN 2 ss rfl rfl rfl (by show _ ≤ (64 : Nat); omega) (show ((2 * 2 ^ ss : Nat) : Int) ≤ 9223372036854775807 by omega)) ?_
              refine AQuiet.cons 187 rfl rfl rfl (OpJ.mul (m := ((((toPl l)[pp].s / (2 * 2 ^ ss) * (2 * 2 ^ ss)) : Nat) : Int)) rfl rfl rfl ((i64ok ?_).trans ?_)) ?_
              · rw [← Int.natCast_mul]; omega
              · exact (Int.natCast_mul _ _).symm
              refine AQuiet.cons 188 rfl rfl rfl (OpJ.move rfl rfl) ?_
              refine AQuiet.cons 189 rfl rfl rfl (OpJ.build rfl bd46 rfl rfl) ?_
              refine AQuiet.nil ?_
              refine AList.c 190 rfl rfl rfl (OpJ.buildOwn rfl slz23 (by decide) rfl rfl) ?_
              refine AList.c 21 rfl rfl rfl (OpJ.assign rfl rfl) ?_
              refine AList.nil ?_
              refine AWp.seq ?_
              refine AWp.region ?_
              refine AList.c 191 rfl rfl rfl (OpJ.move rfl rfl) ?_
              refine AList.c 192 rfl rfl rfl (OpJ.move rfl rfl) ?_
              refine AList.c 193 rfl rfl rfl (OpJ.move rfl rfl) ?_
              refine AList.c 194 rfl rfl rfl (OpJ.add (m := ((pp + 1 : Nat) : Int)) rfl rfl rfl ((i64ok ?_).trans ?_)) ?_
              · omega
              · omega
              refine AList.c 195 rfl rfl rfl (OpJ.sliceIs (l := (pp + 1)) (h := (toPl l).length) (r := (((toPl l).drop (pp + 1)).flatMap Pl.cells)) rfl rfl sl23 el23 ⟨_, rfl⟩ rfl (by omega) (by omega) (plDrop _ _)) ?_
              refine AList.c 196 rfl rfl rfl (OpJ.appendRow rfl rfl rfl slz23 sl23 rfl ?_ (asrc_is (xs := ((toPl l).drop (pp + 1)).flatMap Pl.cells) (n := (toPl l).length - (pp + 1)) (sz := 2) (plDrop_len _ _)) (onePl _) by46 (by decide) ?_) ?_
              · rfl
              · show (2 * (1 + ((toPl l).length - (pp + 1))) + 192) * 16 ≤ 281474976710656; omega
              refine AList.c 21 rfl rfl rfl (OpJ.assign rfl rfl) ?_
              refine AList.nil ?_
              refine AWp.seq ?_
              refine AWp.seq ?_
              refine AWp.freeze 2 rfl (allP_cat [.int .i64 (((toPl l)[pp].s / (2 * 2 ^ ss) * (2 * 2 ^ ss)) : Nat), .int .i64 ((midF (toPl l) need.length (timesV need b) pp (ss + 1)).m - 1)] (((toPl l).drop (pp + 1)).flatMap Pl.cells)) ?_
              refine AWp.freeze 0 rfl (allP_map _) ?_
              refine AWp.sub' (T' := [(0, .p (intsV need)), (17, .p (.is (((midF (toPl l) need.length (timesV need b) pp (ss + 1)).v.set ss ((midF (toPl l) need.length (timesV need b) pp (ss + 1)).v[ss]?.getD 0 - 1)).flatMap i1) need.length)), (21, .p (.is (((⟨((toPl l)[pp].s / (2 * 2 ^ ss) * (2 * 2 ^ ss)), (midF (toPl l) need.length (timesV need b) pp (ss + 1)).m - 1⟩ : Pl) :: (toPl l).drop (pp + 1)).flatMap Pl.cells) (1 + ((toPl l).length - (pp + 1))))), (10, .p (.bool false))]) (Sub.cons rfl (Sub.cons rfl (Sub.cons rfl (Sub.cons rfl Sub.nil)))) ?_
              refine AWp.region ?_
              refine AList.c 22 rfl rfl rfl (OpJ.assign rfl rfl) ?_
              refine AList.nil ?_
              refine AWp.block ?_
              refine AWp.loopKL [0, 17, 21] (fun g => [(22, .p (.int .i64 ((g + 1 : Nat) : Int)))]) (fun g => g ≤ allS need.length ∧ ∀ t, 1 ≤ t → t ≤ g → sumS ((midF (toPl l) need.length (timesV need b) pp (ss + 1)).v.set ss ((midF (toPl l) need.length (timesV need b) pp (ss + 1)).v[ss]?.getD 0 - 1)) t ≤ ofP ((⟨((toPl l)[pp].s / (2 * 2 ^ ss) * (2 * 2 ^ ss)), (midF (toPl l) need.length (timesV need b) pp (ss + 1)).m - 1⟩ : Pl) :: (toPl l).drop (pp + 1)) t) (fun g => allS need.length - g) 0 ⟨Nat.zero_le _, fun t a c => by omega⟩ (Sub.cons rfl (Sub.nil)) (fun j hj => ?_)
              obtain ⟨hj1, hj2⟩ := hj
              refine AWp.seq ?_
              refine AWp.seq ?_
              refine AWp.region ?_
              refine AList.c 197 rfl rfl rfl (OpJ.move rfl rfl) ?_
              refine AList.c 198 rfl rfl rfl (OpJ.move rfl rfl) ?_
              refine AList.c 199 rfl rfl rfl (OpJ.lenSlice rfl rfl sl22 rfl) ?_
              refine AList.c 200 rfl rfl rfl (OpJ.shlN 1 need.length rfl rfl rfl (by show _ ≤ (64 : Nat); omega) (show ((1 * 2 ^ need.length : Nat) : Int) ≤ 9223372036854775807 by omega)) ?_
              refine AList.c 201 rfl rfl rfl (OpJ.lss rfl rfl rfl) ?_
              refine AList.nil ?_
              refine AWp.cond _ rfl (fun hc8 => ?_) (fun hc8 => ?_)
              · skip
                have hk2 : j + 1 < 2 ^ need.length := by have h := of_decide_eq_true hc8; omega
                have hs1 := sumS_B hok2 (j + 1)
                have hs2 := ofP_BB hokr (j + 1)
                refine AWp.skip ?_
                refine AWp.seq ?_
                refine AWp.block ?_
                refine AWp.seq ?_
                refine AWp.region ?_
                refine AList.c 204 rfl rfl rfl (OpJ.move rfl rfl) ?_
                refine AList.c 205 rfl rfl rfl (OpJ.move rfl rfl) ?_
                refine AList.c 206 rfl rfl rfl (OpJ.callP (needs_L ((midF (toPl l) need.length (timesV need b) pp (ss + 1)).v.set ss ((midF (toPl l) need.length (timesV need b) pp (ss + 1)).v[ss]?.getD 0 - 1)) need.length (j + 1) hlen2 hok2 (by omega)) rfl rfl rfl rfl rf23) ?_
                refine AList.c 207 rfl rfl rfl (OpJ.move rfl rfl) ?_
                refine AList.c 208 rfl rfl rfl (OpJ.move rfl rfl) ?_
                refine AList.c 209 rfl rfl rfl (OpJ.callP (of_L need.length ((⟨((toPl l)[pp].s / (2 * 2 ^ ss) * (2 * 2 ^ ss)), (midF (toPl l) need.length (timesV need b) pp (ss + 1)).m - 1⟩ : Pl) :: (toPl l).drop (pp + 1)) (1 + ((toPl l).length - (pp + 1))) (j + 1) (by rw [List.length_cons, List.length_drop]; omega) h8 hokr (by omega)) rfl rfl rfl rfl rf22) ?_
                refine AList.c 210 rfl rfl rfl (OpJ.gtr rfl rfl rfl) ?_
                refine AList.nil ?_
                refine AWp.cond _ rfl (fun hc9 => ?_) (fun hc9 => ?_)
                · skip
                  refine AWp.seq ?_
                  refine AWp.region ?_
                  refine AList.c 211 rfl rfl rfl (OpJ.callP (awake_ok) rfl rfl rfl rfl rf11) ?_
                  refine AList.c 10 rfl rfl rfl (OpJ.assign rfl rfl) ?_
                  refine AList.nil ?_
                  refine AWp.ret ?_
                  refine Fin.oneE rfl rfl ?_
                  rfl
                · skip
                  have h9 : sumS ((midF (toPl l) need.length (timesV need b) pp (ss + 1)).v.set ss ((midF (toPl l) need.length (timesV need b) pp (ss + 1)).v[ss]?.getD 0 - 1)) (j + 1) ≤ ofP ((⟨((toPl l)[pp].s / (2 * 2 ^ ss) * (2 * 2 ^ ss)), (midF (toPl l) need.length (timesV need b) pp (ss + 1)).m - 1⟩ : Pl) :: (toPl l).drop (pp + 1)) (j + 1) := by have h := of_decide_eq_false hc9; omega
                  refine AWp.skip ?_
                  refine AWp.region ?_
                  refine AList.c 202 rfl rfl rfl (OpJ.move rfl rfl) ?_
                  refine AList.c 203 rfl rfl rfl (OpJ.add rfl rfl rfl (i64ok ?_)) ?_
                  · omega
                  refine AList.c 22 rfl rfl rfl (OpJ.assign rfl rfl) ?_
                  refine AList.nil ?_
                  refine ⟨j + 1, ?_, ?_, ?_⟩
                  · refine ⟨by omega, fun t a c => ?_⟩
                    by_cases e : t = j + 1
                    · subst e; exact h9
                    · exact hj2 t a (by omega)
                  · omega
                  exact To.sub (by repeat (first | exact Sub.nil | refine Sub.cons rfl ?_))
              · skip
                have hj : j = allS need.length := by have h := of_decide_eq_false hc8; omega
                subst hj
                have h := hj2 t ht1 ht2
                exact absurd ht3 (by omega)
theorem boxGreedy_law {x0 x1 x2 x3 x4 : List PV} (h0 : TyL [.sl [.leaf (.int .i64)]] x0) (h1 : TyL [.sl [.leaf (.int .i64), .leaf (.int .i64)]] x1) (h2 : TyL [.leaf (.int .i64)] x2) (h3 : TyL [.leaf (.int .u8)] x3) (h4 : TyL [.leaf (.int .u8)] x4) : Pure Try.prog 6 [argP false x0, argP false x1, argP false x2, argP false x3, argP false x4] (.bool true) := by
  obtain ⟨need, rfl, _⟩ := sl_of (fun _ => i1_of) h0
  obtain ⟨l, rfl, _⟩ := sl_of (fun _ => pr_of) h1
  obtain ⟨b, rfl⟩ := int_of h2
  obtain ⟨o, rfl, ho⟩ := kint_of .u8 h3
  obtain ⟨u, rfl, hu⟩ := kint_of .u8 h4
  have a0 : 0 ≤ o := ho.1
  have a9 : o ≤ 255 := ho.2
  have b0 : 0 ≤ u := hu.1
  have b9 : u ≤ 255 := hu.2
  obtain ⟨o, rfl⟩ := Int.eq_ofNat_of_zero_le a0
  obtain ⟨u, rfl⟩ := Int.eq_ofNat_of_zero_le b0
  exact BoxGreedy_ok need l b o u (by omega) (by omega)
end Go.Proofs.Ytpamkihpffoflaa
