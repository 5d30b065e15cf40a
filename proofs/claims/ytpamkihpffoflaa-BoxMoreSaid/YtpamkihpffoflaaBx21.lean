/-
  The law BoxLack.
-/
import Derived.Test.YtpamkihpffoflaaBxFactsD
import Derived.Test.YtpamkihpffoflaaBx20
import Derived.Test.YtpamkihpffoflaaBxH
import Derived.Test.YtpamkihpffoflaaAfG
set_option linter.unusedVariables false
set_option maxRecDepth 100000
set_option maxHeartbeats 4000000
set_option linter.unusedSimpArgs false
namespace Go.Proofs.Ytpamkihpffoflaa
open Go.AF
theorem prs_len (l : List Pr) : (l.flatMap Pr.cells).length = l.length * 2 := flat_len (c := 2) (fun _ => rfl) l
theorem onePr (l : List Pr) : (((l.flatMap Pr.cells).map V.p).all oneV) = true := by
  simp only [List.all_map, List.all_flatMap, List.all_eq_true]
  intro s _ x hx
  simp [Pr.cells] at hx
  rcases hx with rfl | rfl <;> rfl
theorem fill_app (need : List Int) (l : List Pr) (b s n : Int) (hnl : need.length ≤ bigN) (hll : l.length < 8) : Pure Try.prog 16 [intsV need, .is (l.flatMap Pr.cells ++ [.int .i64 s, .int .i64 n]) (0 + l.length + 1), .int .i64 b] (.tuple [rowsV need.length (fR need (l ++ [⟨s, n⟩]) b), .int .i64 (fE need (l ++ [⟨s, n⟩]) b)]) := by
  have h := fill_n need (l ++ [⟨s, n⟩]) b hnl (by unfold bigN; simp; omega)
  unfold rawV at h
  rw [List.flatMap_append, List.length_append] at h
  rw [Nat.zero_add]
  exact h
theorem checkR_or (need : List Int) (l : List Pr) (b : Int) : checkR need l b = 0 ∨ checkR need l b = 1 ∨ checkR need l b = 2 := by
  unfold checkR; split
  · split
    · exact .inl rfl
    · exact .inr (.inr rfl)
  · exact .inr (.inl rfl)
theorem lacks_ok (need : List Int) (l : List Pr) (b : Int) (s : Nat) (hV : Vld need l) (b0 : 0 ≤ b) (b1 : b ≤ 1048576) (hs : s < 256) : Pure Try.prog 26 [.int .i64 (s : Int), .ip [.int .i64 b] 0, .ip [intsV need] 0, .ip [rawV l] 0] (.int .i64 (b * sumS need s - ofP (toPl l) s)) := by
  have h1 := sumS_N hV.2.2.1 hV.1.2 s
  have h2 := ofP_BB (toPl_ok hV) s
  have h3 := mul_BB (A := 1048576) b0 b1 h1.1 h1.2
  refine Pure.start (N := 15) Try.func26 rfl rfl (Nat.le_of_ble_eq_true rfl) ?_
  refine AWp.seq ?_
  refine AWp.region ?_
  refine AList.c 5 rfl rfl rfl (OpJ.assign rfl rfl) ?_
  refine AList.nil ?_
  refine AWp.seq ?_
  refine AWp.regionDraw 10 mixed (by kernel_rfl) (by decide) ?_
  refine AQuiet.cons 6 rfl rfl rfl (OpJ.load rfl rfl ty3 rfl) ?_
  refine AQuiet.cons 7 rfl rfl rfl (OpJ.load rfl rfl ty22 rfl) ?_
  refine AQuiet.cons 8 rfl rfl rfl (OpJ.move rfl rfl) ?_
  refine AQuiet.cons 9 rfl rfl rfl (OpJ.callP (needs_raw hV s (by omega)) rfl rfl rfl rfl rf23) ?_
  refine AQuiet.cons 10 rfl rfl rfl (OpJ.mul rfl rfl rfl (i64ok ?_)) ?_
  · omega
  refine AQuiet.cons 11 rfl rfl rfl (OpJ.load rfl rfl ty23 rfl) ?_
  refine AQuiet.cons 12 rfl rfl rfl (OpJ.move rfl rfl) ?_
  refine AQuiet.cons 13 rfl rfl rfl (OpJ.callP (of_raw hV s hs) rfl rfl rfl rfl rf22) ?_
  refine AQuiet.cons 14 rfl rfl rfl (OpJ.sub_ rfl rfl rfl (i64ok ?_)) ?_
  · omega
  refine AQuiet.cons 5 rfl rfl rfl (OpJ.assign rfl rfl) ?_
  refine AQuiet.nil ?_
  refine AList.nil ?_
  refine AWp.ret ?_
  exact Fin.one rfl (rfl)
theorem lacksF (need : List Int) (l : List Pr) (b : Int) (s : Nat) (hV : Vld need l) (b0 : 0 ≤ b) (b1 : b ≤ 1048576) (hs : s < 256) : FPure Try.prog (.func (.func 26) [] [.ip [.int .i64 b] 0, .ip [intsV need] 0, .ip [rawV l] 0]) [.int .i64 (s : Int)] (.int .i64 (b * sumS need s - ofP (toPl l) s)) :=
  ⟨26, [.int .i64 (s : Int), .ip [.int .i64 b] 0, .ip [intsV need] 0, .ip [rawV l] 0], rfl, rf26, lacks_ok need l b s hV b0 b1 hs⟩
theorem BoxLack_ok (need : List Int) (l : List Pr) (b : Int) (o : Nat) (ho : o ≤ 255) : Pure Try.prog 8 [intsV need, rawV l, .int .i64 b, .int .u8 (o : Int)] (.bool true) := by
  refine Pure.start (N := 197) Try.func8 rfl rfl (Nat.le_of_ble_eq_true rfl) ?_
  refine AWp.seq ?_
  refine AWp.region ?_
  refine AList.c 4 rfl rfl rfl (OpJ.boxImm rfl rfl rfl) ?_
  refine AList.c 5 rfl rfl rfl (OpJ.boxImm rfl rfl rfl) ?_
  refine AList.c 6 rfl rfl rfl (OpJ.boxImm rfl rfl rfl) ?_
  refine AList.c 8 rfl rfl rfl (OpJ.assign rfl rfl) ?_
  refine AList.nil ?_
  refine AWp.seq ?_
  refine AWp.seq ?_
  refine AWp.region ?_
  refine AList.c 20 rfl rfl rfl (OpJ.load rfl rfl ty22 rfl) ?_
  refine AList.c 21 rfl rfl rfl (OpJ.load rfl rfl ty23 rfl) ?_
  refine AList.c 22 rfl rfl rfl (OpJ.callP (large_ok need l) rfl rfl rfl rfl rf10) ?_
  refine AList.nil ?_
  refine AWp.cond _ rfl (fun hc0 => ?_) (fun hc0 => ?_)
  · skip
    refine AWp.seq ?_
    refine AWp.region ?_
    refine AList.c 23 rfl rfl rfl (OpJ.callP (awake_ok) rfl rfl rfl rfl rf11) ?_
    refine AList.c 8 rfl rfl rfl (OpJ.assign rfl rfl) ?_
    refine AList.nil ?_
    refine AWp.ret ?_
    refine Fin.oneE rfl rfl ?_
    rfl
  · skip
    have hnl : need.length ≤ bigN := by unfold bigN; simp at hc0; omega
    have hll : l.length ≤ bigN := by unfold bigN; simp at hc0; omega
    refine AWp.skip ?_
    refine AWp.seq ?_
    refine AWp.region ?_
    refine AList.c 25 rfl rfl rfl (OpJ.load rfl rfl ty22 rfl) ?_
    refine AList.c 26 rfl rfl rfl (OpJ.load rfl rfl ty23 rfl) ?_
    refine AList.c 27 rfl rfl rfl (OpJ.load rfl rfl ty3 rfl) ?_
    refine AList.c 28 rfl rfl rfl (OpJ.callP (lack_n need l b hnl hll) rfl rfl rfl rfl rf14) ?_
    refine AList.c 24 rfl rfl rfl (OpJ.move rfl rfl) ?_
    refine AList.c 29 rfl rfl rfl (OpJ.extract rfl rfl rfl) ?_
    refine AList.c 30 rfl rfl rfl (OpJ.extract rfl rfl rfl) ?_
    refine AList.c 31 rfl rfl rfl (OpJ.extract rfl rfl rfl) ?_
    refine AList.c 9 rfl rfl rfl (OpJ.assign rfl rfl) ?_
    refine AList.c 10 rfl rfl rfl (OpJ.assign rfl rfl) ?_
    refine AList.c 11 rfl rfl rfl (OpJ.assign rfl rfl) ?_
    refine AList.nil ?_
    refine AWp.seq ?_
    refine AWp.region ?_
    refine AList.c 33 rfl rfl rfl (OpJ.load rfl rfl ty22 rfl) ?_
    refine AList.c 34 rfl rfl rfl (OpJ.load rfl rfl ty23 rfl) ?_
    refine AList.c 35 rfl rfl rfl (OpJ.load rfl rfl ty3 rfl) ?_
    refine AList.c 36 rfl rfl rfl (OpJ.callP (fill_n need l b hnl hll) rfl rfl rfl rfl rf16) ?_
    refine AList.c 32 rfl rfl rfl (OpJ.move rfl rfl) ?_
    refine AList.c 37 rfl rfl rfl (OpJ.extract rfl rfl rfl) ?_
    refine AList.c 38 rfl rfl rfl (OpJ.extract rfl rfl rfl) ?_
    refine AList.c 12 rfl rfl rfl (OpJ.assign rfl rfl) ?_
    refine AList.c 13 rfl rfl rfl (OpJ.assign rfl rfl) ?_
    refine AList.nil ?_
    refine AWp.seq ?_
    refine AWp.seq ?_
    refine AWp.region ?_
    refine AList.c 39 rfl rfl rfl (OpJ.move rfl rfl) ?_
    refine AList.c 40 rfl rfl rfl (OpJ.eql rfl rfl rfl) ?_
    refine AList.c 41 rfl rfl rfl (OpJ.move rfl rfl) ?_
    refine AList.g 42 41 rfl rfl rfl rfl rfl rfl rfl [(11, _)] (fun h => And.intro (.inl rfl) (trivial)) (fun h => (OpJ.move rfl rfl)) ?_
    refine AList.g 43 41 rfl rfl rfl rfl rfl rfl rfl [(42, _)] (fun h => And.intro (.inr ⟨_, rfl, h⟩) (trivial)) (fun h => (OpJ.eql rfl rfl rfl)) ?_
    refine AList.c 44 rfl rfl rfl (OpJ.or_ rfl rfl rfl ?_) ?_
    · first | (intro h; rw [h]; rfl) | (intro h; simp_all)
    refine AList.nil ?_
    refine AWp.cond _ rfl (fun hc1 => ?_) (fun hc1 => ?_)
    · skip
      have hbad : checkR need l b ≠ 0 := fun h => by
        obtain ⟨hV, hb⟩ := checkR_zero h
        cases hc : canB need (toPl l) b with
        | true => rw [(lack_no hV hb.1 hb.2 hc).1] at hc1; simp at hc1
        | false => obtain ⟨s, e, _⟩ := lack_yes hV hb.1 hb.2 hc; rw [e] at hc1; simp at hc1
      refine AWp.seq ?_
      refine AWp.region ?_
      refine AList.c 45 rfl rfl rfl (OpJ.move rfl rfl) ?_
      refine AList.c 46 rfl rfl rfl (OpJ.eql rfl rfl rfl) ?_
      refine AList.c 47 rfl rfl rfl (OpJ.move rfl rfl) ?_
      refine AList.g 48 47 rfl rfl rfl rfl rfl rfl rfl [(10, _)] (fun h => And.intro (.inl rfl) (trivial)) (fun h => (OpJ.move rfl rfl)) ?_
      refine AList.g 49 47 rfl rfl rfl rfl rfl rfl rfl [(48, _)] (fun h => And.intro (.inr ⟨_, rfl, h⟩) (trivial)) (fun h => (OpJ.eql rfl rfl rfl)) ?_
      refine AList.c 50 rfl rfl rfl (OpJ.and_ rfl rfl rfl ?_) ?_
      · first | (intro h; rw [h]; rfl) | (intro h; simp_all)
      refine AList.c 51 rfl rfl rfl (OpJ.move rfl rfl) ?_
      refine AList.g 52 51 rfl rfl rfl rfl rfl rfl rfl [(13, _)] (fun h => And.intro (.inl rfl) (trivial)) (fun h => (OpJ.move rfl rfl)) ?_
      refine AList.g 53 51 rfl rfl rfl rfl rfl rfl rfl [(11, _)] (fun h => And.intro (.inl rfl) (trivial)) (fun h => (OpJ.move rfl rfl)) ?_
      refine AList.g 54 51 rfl rfl rfl rfl rfl rfl rfl [(52, _), (53, _)] (fun h => And.intro (.inr ⟨_, rfl, h⟩) (And.intro (.inr ⟨_, rfl, h⟩) (trivial))) (fun h => (OpJ.eql rfl rfl rfl)) ?_
      refine AList.c 55 rfl rfl rfl (OpJ.and_ rfl rfl rfl ?_) ?_
      · first | (intro h; rw [h]; rfl) | (intro h; simp_all)
      refine AList.c 56 rfl rfl rfl (OpJ.move rfl rfl) ?_
      refine AList.g 57 56 rfl rfl rfl rfl rfl rfl rfl [] (fun h => trivial) (fun h => (OpJ.callP (awake_ok) rfl rfl rfl rfl rf11)) ?_
      refine AList.c 58 rfl rfl rfl (OpJ.and_ rfl rfl rfl ?_) ?_
      · first | (intro h; rw [h]; rfl) | (intro h; simp_all)
      refine AList.c 8 rfl rfl rfl (OpJ.assign rfl rfl) ?_
      refine AList.nil ?_
      refine AWp.ret ?_
      refine Fin.oneE rfl rfl ?_
      obtain ⟨a, b, c⟩ := lack_bad hbad
      rw [a, b, c, (fill_bad hbad).1]
      simp
    · skip
      have hck : checkR need l b = 0 := by
        rcases checkR_or need l b with h | h | h
        · exact h
        all_goals
          rw [(lack_bad (by rw [h]; decide)).1, h] at hc1
          simp at hc1
      obtain ⟨hV, hb⟩ := checkR_zero hck
      have hn : okN need := hV.2.2.1
      have h8 := hV.1.2
      have h0 := hV.1.1
      have hL := toPl_ok hV
      have hp := pow8 h8
      have hp1 := pow_pos' need.length
      have hA : allS need.length = 2 ^ need.length - 1 := rfl
      have hl8 := hL.1
      have hp2 : 2 ^ 1 ≤ 2 ^ need.length := Nat.pow_le_pow_right (by omega) h0
      have hml := Nat.mod_lt o (show allS need.length > 0 by omega)
      obtain ⟨so, hso⟩ : ∃ so, so = 1 + o % allS need.length := ⟨_, rfl⟩
      refine AWp.skip ?_
      refine AWp.seq ?_
      refine AWp.seq ?_
      refine AWp.region ?_
      refine AList.c 59 rfl rfl rfl (OpJ.load rfl rfl ty22 rfl) ?_
      refine AList.c 60 rfl rfl rfl (OpJ.load rfl rfl ty23 rfl) ?_
      refine AList.c 61 rfl rfl rfl (OpJ.callP (rvalid_ok need l hnl hll) rfl rfl rfl rfl rf21) ?_
      refine AList.c 62 rfl rfl rfl (OpJ.not_ rfl rfl) ?_
      refine AList.c 63 rfl rfl rfl (OpJ.move rfl rfl) ?_
      refine AList.g 64 63 rfl rfl rfl rfl rfl rfl rfl [(6, _)] (fun h => And.intro (.inl rfl) (trivial)) (fun h => (OpJ.load rfl rfl ty3 rfl)) ?_
      refine AList.g 65 63 rfl rfl rfl rfl rfl rfl rfl [(64, _)] (fun h => And.intro (.inr ⟨_, rfl, h⟩) (trivial)) (fun h => (OpJ.lss rfl rfl rfl)) ?_
      refine AList.c 66 rfl rfl rfl (OpJ.or_ rfl rfl rfl ?_) ?_
      · first | (intro h; rw [h]; rfl) | (intro h; simp_all)
      refine AList.c 67 rfl rfl rfl (OpJ.move rfl rfl) ?_
      refine AList.g 68 67 rfl rfl rfl rfl rfl rfl rfl [(6, _)] (fun h => And.intro (.inl rfl) (trivial)) (fun h => (OpJ.load rfl rfl ty3 rfl)) ?_
      refine AList.g 69 67 rfl rfl rfl rfl rfl rfl rfl [(68, _)] (fun h => And.intro (.inr ⟨_, rfl, h⟩) (trivial)) (fun h => (OpJ.gtr rfl rfl rfl)) ?_
      refine AList.c 70 rfl rfl rfl (OpJ.or_ rfl rfl rfl ?_) ?_
      · first | (intro h; rw [h]; rfl) | (intro h; simp_all)
      refine AList.nil ?_
      refine AWp.cond _ rfl (fun hc2 => ?_) (fun hc2 => ?_)
      · skip
        simp only [Bool.or_eq_true, Bool.not_eq_true', decide_eq_true_eq, decide_eq_false_iff_not] at hc2
        rcases hc2 with (h | h) | h
        · exact absurd hV h
        all_goals exact absurd h (by omega)
      · skip
        refine AWp.skip ?_
        refine AWp.seq ?_
        refine AWp.region ?_
        refine AList.c 71 rfl rfl rfl (OpJ.makeFunc rfl rfl rfl) ?_
        refine AList.c 14 rfl rfl rfl (OpJ.assign rfl rfl) ?_
        refine AList.nil ?_
        refine AWp.seq ?_
        refine AWp.region ?_
        refine AList.c 72 rfl rfl rfl (OpJ.move rfl rfl) ?_
        refine AList.c 73 rfl rfl rfl (OpJ.convInt rfl rfl (by rw [un5]; rfl) un3 (i64ok ?_)) ?_
        · omega
        refine AList.c 74 rfl rfl rfl (OpJ.load rfl rfl ty22 rfl) ?_
        refine AList.c 75 rfl rfl rfl (OpJ.lenSlice rfl rfl sl22 rfl) ?_
        refine AList.c 76 rfl rfl rfl (OpJ.shlN 1 need.length rfl rfl rfl (by show _ ≤ (64 : Nat); omega) (show ((1 * 2 ^ need.length : Nat) : Int) ≤ 9223372036854775807 by omega)) ?_
        refine AList.c 77 rfl rfl rfl (OpJ.sub_ (m := ((allS need.length : Nat) : Int)) rfl rfl rfl ((i64ok ?_).trans ?_)) ?_
        · omega
        · omega
        refine AList.c 78 rfl rfl rfl (OpJ.rem (m := ((o % allS need.length : Nat) : Int)) rfl rfl rfl ?_ ?_) ?_
        · omega
        · exact tmodN _ _
        refine AList.c 79 rfl rfl rfl (OpJ.add (m := (so : Int)) rfl rfl rfl ((i64ok ?_).trans ?_)) ?_
        · omega
        · omega
        refine AList.c 15 rfl rfl rfl (OpJ.assign rfl rfl) ?_
        refine AList.nil ?_
        refine AWp.seq ?_
        refine AWp.seq ?_
        refine AWp.region ?_
        refine AList.c 80 rfl rfl rfl (OpJ.move rfl rfl) ?_
        refine AList.c 81 rfl rfl rfl (OpJ.neq rfl rfl rfl) ?_
        refine AList.nil ?_
        refine AWp.cond _ rfl (fun hc3 => ?_) (fun hc3 => ?_)
        · skip
          have hcb : canB need (toPl l) b = true := by
            cases hc : canB need (toPl l) b with
            | true => rfl
            | false => obtain ⟨s, e, _⟩ := lack_yes hV hb.1 hb.2 hc; rw [e] at hc3; simp at hc3
          obtain ⟨hlE, hlS, hlN⟩ := lack_no hV hb.1 hb.2 hcb
          obtain ⟨hfE, _⟩ := fill_yes hV hb.1 hb.2 hcb
          have hcs := canB_iff.1 hcb so (by omega) (by omega)
          refine AWp.seq ?_
          refine AWp.region ?_
          refine AList.c 82 rfl rfl rfl (OpJ.move rfl rfl) ?_
          refine AList.c 83 rfl rfl rfl (OpJ.eql rfl rfl rfl) ?_
          refine AList.c 84 rfl rfl rfl (OpJ.move rfl rfl) ?_
          refine AList.g 85 84 rfl rfl rfl rfl rfl rfl rfl [(9, _)] (fun h => And.intro (.inl rfl) (trivial)) (fun h => (OpJ.move rfl rfl)) ?_
          refine AList.g 86 84 rfl rfl rfl rfl rfl rfl rfl [(85, _)] (fun h => And.intro (.inr ⟨_, rfl, h⟩) (trivial)) (fun h => (OpJ.eql rfl rfl rfl)) ?_
          refine AList.c 87 rfl rfl rfl (OpJ.and_ rfl rfl rfl ?_) ?_
          · first | (intro h; rw [h]; rfl) | (intro h; simp_all)
          refine AList.c 88 rfl rfl rfl (OpJ.move rfl rfl) ?_
          refine AList.g 89 88 rfl rfl rfl rfl rfl rfl rfl [(10, _)] (fun h => And.intro (.inl rfl) (trivial)) (fun h => (OpJ.move rfl rfl)) ?_
          refine AList.g 90 88 rfl rfl rfl rfl rfl rfl rfl [(89, _)] (fun h => And.intro (.inr ⟨_, rfl, h⟩) (trivial)) (fun h => (OpJ.eql rfl rfl rfl)) ?_
          refine AList.c 91 rfl rfl rfl (OpJ.and_ rfl rfl rfl ?_) ?_
          · first | (intro h; rw [h]; rfl) | (intro h; simp_all)
          refine AList.c 92 rfl rfl rfl (OpJ.move rfl rfl) ?_
          refine AList.g 93 92 rfl rfl rfl rfl rfl rfl rfl [(13, _)] (fun h => And.intro (.inl rfl) (trivial)) (fun h => (OpJ.move rfl rfl)) ?_
          refine AList.g 94 92 rfl rfl rfl rfl rfl rfl rfl [(93, _)] (fun h => And.intro (.inr ⟨_, rfl, h⟩) (trivial)) (fun h => (OpJ.eql rfl rfl rfl)) ?_
          refine AList.c 95 rfl rfl rfl (OpJ.and_ rfl rfl rfl ?_) ?_
          · first | (intro h; rw [h]; rfl) | (intro h; simp_all)
          refine AList.c 96 rfl rfl rfl (OpJ.move rfl rfl) ?_
          refine AList.g 97 96 rfl rfl rfl rfl rfl rfl rfl [(14, _)] (fun h => And.intro (.inl rfl) (trivial)) (fun h => (OpJ.move rfl rfl)) ?_
          refine AList.g 98 96 rfl rfl rfl rfl rfl rfl rfl [(15, _)] (fun h => And.intro (.inl rfl) (trivial)) (fun h => (OpJ.move rfl rfl)) ?_
          refine AList.g 99 96 rfl rfl rfl rfl rfl rfl rfl [(97, _), (98, _)] (fun h => And.intro (.inr ⟨_, rfl, h⟩) (And.intro (.inr ⟨_, rfl, h⟩) (trivial))) (fun h => (OpJ.callF (lacksF need l b so hV hb.1 hb.2 (by omega)) rfl rfl rfl)) ?_
          refine AList.g 100 96 rfl rfl rfl rfl rfl rfl rfl [(99, _)] (fun h => And.intro (.inr ⟨_, rfl, h⟩) (trivial)) (fun h => (OpJ.leq rfl rfl rfl)) ?_
          refine AList.c 101 rfl rfl rfl (OpJ.and_ rfl rfl rfl ?_) ?_
          · first | (intro h; rw [h]; rfl) | (intro h; simp_all)
          refine AList.c 102 rfl rfl rfl (OpJ.move rfl rfl) ?_
          refine AList.g 103 102 rfl rfl rfl rfl rfl rfl rfl [] (fun h => trivial) (fun h => (OpJ.callP (awake_ok) rfl rfl rfl rfl rf11)) ?_
          refine AList.c 104 rfl rfl rfl (OpJ.and_ rfl rfl rfl ?_) ?_
          · first | (intro h; rw [h]; rfl) | (intro h; simp_all)
          refine AList.c 8 rfl rfl rfl (OpJ.assign rfl rfl) ?_
          refine AList.nil ?_
          refine AWp.ret ?_
          refine Fin.oneE rfl rfl ?_
          rw [hlE, hlS, hlN, hfE, decide_eq_true (show b * sumS need so - ofP (toPl l) so ≤ 0 by omega)]
          rfl
        · skip
          have hcb : canB need (toPl l) b = false := by
            cases hc : canB need (toPl l) b with
            | false => rfl
            | true => rw [(lack_no hV hb.1 hb.2 hc).1] at hc3; simp at hc3
          obtain ⟨s, hlE, hlS, hs1, hs2, hlN, hlv, hmax, hmin⟩ := lack_yes hV hb.1 hb.2 hcb
          obtain ⟨hfE, _⟩ := fill_no hV hb.1 hb.2 hcb
          have hm1 := hmax so (by omega) (by omega)
          have hss := sumS_N hn h8 s
          have hmb := mul_BB (A := 1048576) hb.1 hb.2 hss.1 hss.2
          have hos := ofP_BB hL s
          rw [hlS]
          refine AWp.skip ?_
          refine AWp.seq ?_
          refine AWp.seq ?_
          refine AWp.region ?_
          refine AList.c 105 rfl rfl rfl (OpJ.move rfl rfl) ?_
          refine AList.c 106 rfl rfl rfl (OpJ.neq rfl rfl rfl) ?_
          refine AList.c 107 rfl rfl rfl (OpJ.move rfl rfl) ?_
          refine AList.g 108 107 rfl rfl rfl rfl rfl rfl rfl [(9, _)] (fun h => And.intro (.inl rfl) (trivial)) (fun h => (OpJ.move rfl rfl)) ?_
          refine AList.g 109 107 rfl rfl rfl rfl rfl rfl rfl [(108, _)] (fun h => And.intro (.inr ⟨_, rfl, h⟩) (trivial)) (fun h => (OpJ.lss rfl rfl rfl)) ?_
          refine AList.c 110 rfl rfl rfl (OpJ.or_ rfl rfl rfl ?_) ?_
          · first | (intro h; rw [h]; rfl) | (intro h; simp_all)
          refine AList.c 111 rfl rfl rfl (OpJ.move rfl rfl) ?_
          refine AList.g 112 111 rfl rfl rfl rfl rfl rfl rfl [(9, _)] (fun h => And.intro (.inl rfl) (trivial)) (fun h => (OpJ.move rfl rfl)) ?_
          refine AList.g 113 111 rfl rfl rfl rfl rfl rfl rfl [(4, _)] (fun h => And.intro (.inl rfl) (trivial)) (fun h => (OpJ.load rfl rfl ty22 rfl)) ?_
          refine AList.g 114 111 rfl rfl rfl rfl rfl rfl rfl [(113, _)] (fun h => And.intro (.inr ⟨_, rfl, h⟩) (trivial)) (fun h => (OpJ.lenSlice rfl rfl sl22 rfl)) ?_
          refine AList.g 115 111 rfl rfl rfl rfl rfl rfl rfl [(114, _)] (fun h => And.intro (.inr ⟨_, rfl, h⟩) (trivial)) (fun h => (OpJ.shlN 1 need.length rfl rfl rfl (by show _ ≤ (64 : Nat); omega) (show ((1 * 2 ^ need.length : Nat) : Int) ≤ 9223372036854775807 by omega))) ?_
          refine AList.g 116 111 rfl rfl rfl rfl rfl rfl rfl [(112, _), (115, _)] (fun h => And.intro (.inr ⟨_, rfl, h⟩) (And.intro (.inr ⟨_, rfl, h⟩) (trivial))) (fun h => (OpJ.geq rfl rfl rfl)) ?_
          refine AList.c 117 rfl rfl rfl (OpJ.or_ rfl rfl rfl ?_) ?_
          · first | (intro h; rw [h]; rfl) | (intro h; simp_all)
          refine AList.c 118 rfl rfl rfl (OpJ.move rfl rfl) ?_
          refine AList.g 119 118 rfl rfl rfl rfl rfl rfl rfl [(10, _)] (fun h => And.intro (.inl rfl) (trivial)) (fun h => (OpJ.move rfl rfl)) ?_
          refine AList.g 120 118 rfl rfl rfl rfl rfl rfl rfl [(119, _)] (fun h => And.intro (.inr ⟨_, rfl, h⟩) (trivial)) (fun h => (OpJ.lss rfl rfl rfl)) ?_
          refine AList.c 121 rfl rfl rfl (OpJ.or_ rfl rfl rfl ?_) ?_
          · first | (intro h; rw [h]; rfl) | (intro h; simp_all)
          refine AList.c 122 rfl rfl rfl (OpJ.move rfl rfl) ?_
          refine AList.g 123 122 rfl rfl rfl rfl rfl rfl rfl [(14, _)] (fun h => And.intro (.inl rfl) (trivial)) (fun h => (OpJ.move rfl rfl)) ?_
          refine AList.g 124 122 rfl rfl rfl rfl rfl rfl rfl [(9, _)] (fun h => And.intro (.inl rfl) (trivial)) (fun h => (OpJ.move rfl rfl)) ?_
          refine AList.g 125 122 rfl rfl rfl rfl rfl rfl rfl [(123, _), (124, _)] (fun h => And.intro (.inr ⟨_, rfl, h⟩) (And.intro (.inr ⟨_, rfl, h⟩) (trivial))) (fun h => (OpJ.callF (lacksF need l b s hV hb.1 hb.2 (by omega)) rfl rfl rfl)) ?_
          refine AList.g 126 122 rfl rfl rfl rfl rfl rfl rfl [(10, _)] (fun h => And.intro (.inl rfl) (trivial)) (fun h => (OpJ.move rfl rfl)) ?_
          refine AList.g 127 122 rfl rfl rfl rfl rfl rfl rfl [(125, _), (126, _)] (fun h => And.intro (.inr ⟨_, rfl, h⟩) (And.intro (.inr ⟨_, rfl, h⟩) (trivial))) (fun h => (OpJ.neq rfl rfl rfl)) ?_
          refine AList.c 128 rfl rfl rfl (OpJ.or_ rfl rfl rfl ?_) ?_
          · first | (intro h; rw [h]; rfl) | (intro h; simp_all)
          refine AList.c 129 rfl rfl rfl (OpJ.move rfl rfl) ?_
          refine AList.g 130 129 rfl rfl rfl rfl rfl rfl rfl [(14, _)] (fun h => And.intro (.inl rfl) (trivial)) (fun h => (OpJ.move rfl rfl)) ?_
          refine AList.g 131 129 rfl rfl rfl rfl rfl rfl rfl [(15, _)] (fun h => And.intro (.inl rfl) (trivial)) (fun h => (OpJ.move rfl rfl)) ?_
          refine AList.g 132 129 rfl rfl rfl rfl rfl rfl rfl [(130, _), (131, _)] (fun h => And.intro (.inr ⟨_, rfl, h⟩) (And.intro (.inr ⟨_, rfl, h⟩) (trivial))) (fun h => (OpJ.callF (lacksF need l b so hV hb.1 hb.2 (by omega)) rfl rfl rfl)) ?_
          refine AList.g 133 129 rfl rfl rfl rfl rfl rfl rfl [(10, _)] (fun h => And.intro (.inl rfl) (trivial)) (fun h => (OpJ.move rfl rfl)) ?_
          refine AList.g 134 129 rfl rfl rfl rfl rfl rfl rfl [(132, _), (133, _)] (fun h => And.intro (.inr ⟨_, rfl, h⟩) (And.intro (.inr ⟨_, rfl, h⟩) (trivial))) (fun h => (OpJ.gtr rfl rfl rfl)) ?_
          refine AList.c 135 rfl rfl rfl (OpJ.or_ rfl rfl rfl ?_) ?_
          · first | (intro h; rw [h]; rfl) | (intro h; simp_all)
          refine AList.c 136 rfl rfl rfl (OpJ.move rfl rfl) ?_
          refine AList.g 137 136 rfl rfl rfl rfl rfl rfl rfl [(14, _)] (fun h => And.intro (.inl rfl) (trivial)) (fun h => (OpJ.move rfl rfl)) ?_
          refine AList.g 138 136 rfl rfl rfl rfl rfl rfl rfl [(15, _)] (fun h => And.intro (.inl rfl) (trivial)) (fun h => (OpJ.move rfl rfl)) ?_
          refine AList.g 139 136 rfl rfl rfl rfl rfl rfl rfl [(137, _), (138, _)] (fun h => And.intro (.inr ⟨_, rfl, h⟩) (And.intro (.inr ⟨_, rfl, h⟩) (trivial))) (fun h => (OpJ.callF (lacksF need l b so hV hb.1 hb.2 (by omega)) rfl rfl rfl)) ?_
          refine AList.g 140 136 rfl rfl rfl rfl rfl rfl rfl [(10, _)] (fun h => And.intro (.inl rfl) (trivial)) (fun h => (OpJ.move rfl rfl)) ?_
          refine AList.g 141 136 rfl rfl rfl rfl rfl rfl rfl [(139, _), (140, _)] (fun h => And.intro (.inr ⟨_, rfl, h⟩) (And.intro (.inr ⟨_, rfl, h⟩) (trivial))) (fun h => (OpJ.eql rfl rfl rfl)) ?_
          refine AList.g 142 136 rfl rfl rfl rfl rfl rfl rfl [(141, _)] (fun h => And.intro (.inr ⟨_, rfl, h⟩) (trivial)) (fun h => (OpJ.move rfl rfl)) ?_
          refine AList.g 143 142 rfl rfl rfl rfl rfl rfl rfl [(15, _)] (fun h => And.intro (.inl rfl) (trivial)) (fun h => (OpJ.move rfl rfl)) ?_
          refine AList.g 144 142 rfl rfl rfl rfl rfl rfl rfl [(9, _)] (fun h => And.intro (.inl rfl) (trivial)) (fun h => (OpJ.move rfl rfl)) ?_
          refine AList.g 145 142 rfl rfl rfl rfl rfl rfl rfl [(143, _), (144, _)] (fun h => And.intro (.inr ⟨_, rfl, h⟩) (And.intro (.inr ⟨_, rfl, h⟩) (trivial))) (fun h => (OpJ.lss rfl rfl rfl)) ?_
          refine AList.g 146 136 rfl rfl rfl rfl rfl rfl rfl [(142, _), (145, _)] (fun h => And.intro (.inr ⟨_, rfl, h⟩) (And.intro (.inl rfl) (trivial))) (fun h => (OpJ.and_ rfl rfl rfl (fun e => by simp_all))) ?_
          refine AList.c 147 rfl rfl rfl (OpJ.or_ rfl rfl rfl ?_) ?_
          · first | (intro h; rw [h]; rfl) | (intro h; simp_all)
          refine AList.nil ?_
          refine AWp.cond _ rfl (fun hc4 => ?_) (fun hc4 => ?_)
          · skip
            rw [hfE] at hc4
            simp only [Bool.or_eq_true, Bool.and_eq_true, Bool.not_eq_true', decide_eq_true_eq, decide_eq_false_iff_not] at hc4
            rcases hc4 with (((((h | h) | h) | h) | h) | h) | h
            · simp at h
            · exact absurd h (by omega)
            · exact absurd h (by omega)
            · exact absurd h (by omega)
            · exact absurd hlv.symm h
            · exact absurd h (by omega)
            · exact absurd (hmin so (by omega) (by omega)) (by omega)
          · skip
            refine AWp.skip ?_
            refine AWp.seq ?_
            refine AWp.seq ?_
            refine AWp.region ?_
            refine AList.c 148 rfl rfl rfl (OpJ.load rfl rfl ty23 rfl) ?_
            refine AList.c 149 rfl rfl rfl (OpJ.lenSlice rfl rfl sl23 rfl) ?_
            refine AList.c 150 rfl rfl rfl (OpJ.geq rfl rfl rfl) ?_
            refine AList.c 151 rfl rfl rfl (OpJ.move rfl rfl) ?_
            refine AList.g 152 151 rfl rfl rfl rfl rfl rfl rfl [(10, _)] (fun h => And.intro (.inl rfl) (trivial)) (fun h => (OpJ.move rfl rfl)) ?_
            refine AList.g 153 151 rfl rfl rfl rfl rfl rfl rfl [(152, _)] (fun h => And.intro (.inr ⟨_, rfl, h⟩) (trivial)) (fun h => (OpJ.gtr rfl rfl rfl)) ?_
            refine AList.c 154 rfl rfl rfl (OpJ.or_ rfl rfl rfl ?_) ?_
            · first | (intro h; rw [h]; rfl) | (intro h; simp_all)
            refine AList.nil ?_
            refine AWp.cond _ rfl (fun hc5 => ?_) (fun hc5 => ?_)
            · skip
              refine AWp.seq ?_
              refine AWp.region ?_
              refine AList.c 155 rfl rfl rfl (OpJ.callP (awake_ok) rfl rfl rfl rfl rf11) ?_
              refine AList.c 8 rfl rfl rfl (OpJ.assign rfl rfl) ?_
              refine AList.nil ?_
              refine AWp.ret ?_
              refine Fin.oneE rfl rfl ?_
              rfl
            · skip
              have hl7 : l.length < 8 ∧ lN need l b ≤ 1048576 := by simp at hc5; omega
              obtain ⟨hl7, hnm⟩ := hl7
              refine AWp.skip ?_
              refine AWp.seq ?_
              refine AWp.regionDrawG 15 3 [0, 1, 2] [([], false), ([0], true), ([], false), ([1, 0], true), ([], false), ([], false), ([], false), ([], false), ([2, 1], true), ([], false), ([2], true), ([], false), ([], false), ([], false), ([], false)] mixed (by kernel_rfl) (by decide) (by kernel_rfl) rfl rfl ?_
              refine AQG.cons 157 rfl rfl rfl (fun _ => (OpJ.load rfl rfl ty22 rfl)) rfl ?_
              refine AQG.lay (v0 := .row 3 _) 158 0 rfl rfl rfl rfl rfl rfl rfl rfl (fun _ => (OpJ.buildOwn rfl slz23 (by decide) rfl rfl)) rfl rfl rfl ?_
              refine AQG.cons 159 rfl rfl rfl (fun _ => (OpJ.load rfl rfl ty23 rfl)) rfl ?_
              refine AQG.turn (v0 := .row 3 _) 160 1 0 rfl rfl rfl rfl rfl rfl rfl rfl rfl rfl (fun _ => (OpJ.appendRow (i := 0) (len := 0) (cs := []) rfl rfl rfl slz23 sl23 rfl ?_ (asrc_is (xs := (l.flatMap Pr.cells)) (n := l.length) (sz := 2) (prs_len l)) (onePr _) by46 (by decide) ?_)) rfl rfl (congrArg (fun z => Blk.row z 46) (renL_pure _ (l.flatMap Pr.cells))) ?_
              · rfl
              · show (2 * (0 + l.length) + 192) * 16 ≤ 281474976710656; omega
              refine AQG.cons 161 rfl rfl rfl (fun _ => (OpJ.move rfl rfl)) rfl ?_
              refine AQG.cons 162 rfl rfl rfl (fun _ => (OpJ.move rfl rfl)) rfl ?_
              refine AQG.cons 163 rfl rfl rfl (fun _ => (OpJ.build rfl bd46 rfl rfl)) rfl ?_
              refine AQG.cons 164 rfl rfl rfl (fun _ => (OpJ.buildImm rfl slz23 (by decide) rfl rfl rfl)) rfl ?_
              refine AQG.turn (blk := .row (([] ++ (l.flatMap Pr.cells).map .p) ++ [.p (.int .i64 (s : Int)), .p (.int .i64 (lN need l b))]) 46) (v0 := .row 3 _) 165 2 1 rfl rfl rfl rfl rfl rfl rfl rfl rfl rfl (fun _ => (OpJ.appendRow (i := 1) (len := 0 + l.length) (cs := [] ++ (l.flatMap Pr.cells).map .p) (ys := [.p (.int .i64 (s : Int)), .p (.int .i64 (lN need l b))]) (n := 1) rfl rfl rfl slz23 sl23 rfl ?_ rfl rfl by46 (by decide) ?_)) rfl rfl (congrArg (fun z => Blk.row z 46) (renL_cat _ (l.flatMap Pr.cells) [.int .i64 (s : Int), .int .i64 (lN need l b)])) ?_
              · rw [List.nil_append, List.length_map, prs_len, Nat.zero_add]; rfl
              · show (2 * (0 + l.length + 1) + 192) * 16 ≤ 281474976710656; omega
              refine AQG.cons 166 rfl rfl rfl (fun _ => (OpJ.load rfl rfl ty3 rfl)) rfl ?_
              refine AQG.puts (blk := .dead) 167 2 rfl rfl rfl rfl rfl (fun _ => (OpJ.frz 2 rfl (allP_cat (l.flatMap Pr.cells) [.int .i64 (s : Int), .int .i64 (lN need l b)]) (OpJ.callP (fill_app need l b (s : Int) (lN need l b) hnl hl7) rfl rfl rfl rfl rf16))) rfl rfl ?_
              refine AQG.cons 156 rfl rfl rfl (fun _ => (OpJ.move rfl rfl)) rfl ?_
              refine AQG.cons 168 rfl rfl rfl (fun _ => (OpJ.extract rfl rfl rfl)) rfl ?_
              refine AQG.cons 169 rfl rfl rfl (fun _ => (OpJ.extract rfl rfl rfl)) rfl ?_
              refine AQG.cons 16 rfl rfl rfl (fun _ => (OpJ.assign rfl rfl)) rfl ?_
              refine AQG.nil ?_
              refine AList.c 17 rfl rfl rfl (OpJ.assign rfl rfl) ?_
              refine AList.nil ?_
              refine AWp.seq ?_
              refine AWp.regionDrawG 19 3 [3, 4, 5] [([], false), ([3], true), ([], false), ([4, 3], true), ([], false), ([], false), ([], false), ([], false), ([], false), ([], false), ([], false), ([], false), ([5, 4], true), ([], false), ([5], true), ([], false), ([], false), ([], false), ([], false)] mixed (by kernel_rfl) (by decide) (by kernel_rfl) rfl rfl ?_
              refine AQG.cons 171 rfl rfl rfl (fun _ => (OpJ.load rfl rfl ty22 rfl)) rfl ?_
              refine AQG.lay (v0 := .row 6 _) 172 3 rfl rfl rfl rfl rfl rfl rfl rfl (fun _ => (OpJ.buildOwn rfl slz23 (by decide) rfl rfl)) rfl rfl rfl ?_
              refine AQG.cons 173 rfl rfl rfl (fun _ => (OpJ.load rfl rfl ty23 rfl)) rfl ?_
              refine AQG.turn (v0 := .row 6 _) 174 4 3 rfl rfl rfl rfl rfl rfl rfl rfl rfl rfl (fun _ => (OpJ.appendRow (i := 3) (len := 0) (cs := []) rfl rfl rfl slz23 sl23 rfl ?_ (asrc_is (xs := (l.flatMap Pr.cells)) (n := l.length) (sz := 2) (prs_len l)) (onePr _) by46 (by decide) ?_)) rfl rfl (congrArg (fun z => Blk.row z 46) (renL_pure _ (l.flatMap Pr.cells))) ?_
              · rfl
              · show (2 * (0 + l.length) + 192) * 16 ≤ 281474976710656; omega
              refine AQG.cons 175 rfl rfl rfl (fun _ => (OpJ.load rfl rfl ty22 rfl)) rfl ?_
              refine AQG.cons 176 rfl rfl rfl (fun _ => (OpJ.lenSlice rfl rfl sl22 rfl)) rfl ?_
              refine AQG.cons 177 rfl rfl rfl (fun _ => (OpJ.shlN 1 need.length rfl rfl rfl (by show _ ≤ (64 : Nat); omega) (show ((1 * 2 ^ need.length : Nat) : Int) ≤ 9223372036854775807 by omega))) rfl ?_
              refine AQG.cons 178 rfl rfl rfl (fun _ => (OpJ.sub_ (m := ((allS need.length : Nat) : Int)) rfl rfl rfl ((i64ok ?_).trans ?_))) rfl ?_
              · omega
              · omega
              refine AQG.cons 179 rfl rfl rfl (fun _ => (OpJ.move rfl rfl)) rfl ?_
              refine AQG.cons 180 rfl rfl rfl (fun _ => (OpJ.sub_ rfl rfl rfl (i64ok ?_))) rfl ?_
              · omega
              refine AQG.cons 181 rfl rfl rfl (fun _ => (OpJ.build rfl bd46 rfl rfl)) rfl ?_
              refine AQG.cons 182 rfl rfl rfl (fun _ => (OpJ.buildImm rfl slz23 (by decide) rfl rfl rfl)) rfl ?_
              refine AQG.turn (blk := .row (([] ++ (l.flatMap Pr.cells).map .p) ++ [.p (.int .i64 ((allS need.length : Nat) : Int)), .p (.int .i64 (lN need l b - 1))]) 46) (v0 := .row 6 _) 183 5 4 rfl rfl rfl rfl rfl rfl rfl rfl rfl rfl (fun _ => (OpJ.appendRow (i := 4) (len := 0 + l.length) (cs := [] ++ (l.flatMap Pr.cells).map .p) (ys := [.p (.int .i64 ((allS need.length : Nat) : Int)), .p (.int .i64 (lN need l b - 1))]) (n := 1) rfl rfl rfl slz23 sl23 rfl ?_ rfl rfl by46 (by decide) ?_)) rfl rfl (congrArg (fun z => Blk.row z 46) (renL_cat _ (l.flatMap Pr.cells) [.int .i64 ((allS need.length : Nat) : Int), .int .i64 (lN need l b - 1)])) ?_
              · rw [List.nil_append, List.length_map, prs_len, Nat.zero_add]; rfl
              · show (2 * (0 + l.length + 1) + 192) * 16 ≤ 281474976710656; omega
              refine AQG.cons 184 rfl rfl rfl (fun _ => (OpJ.load rfl rfl ty3 rfl)) rfl ?_
              refine AQG.puts (blk := .dead) 185 5 rfl rfl rfl rfl rfl (fun _ => (OpJ.frz 5 rfl (allP_cat (l.flatMap Pr.cells) [.int .i64 ((allS need.length : Nat) : Int), .int .i64 (lN need l b - 1)]) (OpJ.callP (fill_app need l b ((allS need.length : Nat) : Int) (lN need l b - 1) hnl hl7) rfl rfl rfl rfl rf16))) rfl rfl ?_
              refine AQG.cons 170 rfl rfl rfl (fun _ => (OpJ.move rfl rfl)) rfl ?_
              refine AQG.cons 186 rfl rfl rfl (fun _ => (OpJ.extract rfl rfl rfl)) rfl ?_
              refine AQG.cons 187 rfl rfl rfl (fun _ => (OpJ.extract rfl rfl rfl)) rfl ?_
              refine AQG.cons 18 rfl rfl rfl (fun _ => (OpJ.assign rfl rfl)) rfl ?_
              refine AQG.nil ?_
              refine AList.c 19 rfl rfl rfl (OpJ.assign rfl rfl) ?_
              refine AList.nil ?_
              refine AWp.seq ?_
              refine AWp.region ?_
              refine AList.c 188 rfl rfl rfl (OpJ.move rfl rfl) ?_
              refine AList.c 189 rfl rfl rfl (OpJ.eql rfl rfl rfl) ?_
              refine AList.c 190 rfl rfl rfl (OpJ.move rfl rfl) ?_
              refine AList.g 191 190 rfl rfl rfl rfl rfl rfl rfl [(19, _)] (fun h => And.intro (.inl rfl) (trivial)) (fun h => (OpJ.move rfl rfl)) ?_
              refine AList.g 192 190 rfl rfl rfl rfl rfl rfl rfl [(191, _)] (fun h => And.intro (.inr ⟨_, rfl, h⟩) (trivial)) (fun h => (OpJ.eql rfl rfl rfl)) ?_
              refine AList.c 193 rfl rfl rfl (OpJ.and_ rfl rfl rfl ?_) ?_
              · first | (intro h; rw [h]; rfl) | (intro h; simp_all)
              refine AList.c 194 rfl rfl rfl (OpJ.move rfl rfl) ?_
              refine AList.g 195 194 rfl rfl rfl rfl rfl rfl rfl [] (fun h => trivial) (fun h => (OpJ.callP (awake_ok) rfl rfl rfl rfl rf11)) ?_
              refine AList.c 196 rfl rfl rfl (OpJ.and_ rfl rfl rfl ?_) ?_
              · first | (intro h; rw [h]; rfl) | (intro h; simp_all)
              refine AList.c 8 rfl rfl rfl (OpJ.assign rfl rfl) ?_
              refine AList.nil ?_
              refine AWp.ret ?_
              refine Fin.oneE rfl rfl ?_
              have h1 := lack_fix hL.pos hs2 (by omega) hlv hmax
              have h2 := lack_less (l := toPl l) hs1 hs2 hlv
              have v1 : Vld need (l ++ [⟨(s : Int), lN need l b⟩]) := vld_app hV hl7 ⟨⟨by show (0 : Int) ≤ (s : Int); omega, by show (s : Int) ≤ _; omega⟩, by show 0 ≤ lN need l b; omega, hnm⟩
              have v2 : Vld need (l ++ [⟨((allS need.length : Nat) : Int), lN need l b - 1⟩]) := vld_app hV hl7 ⟨⟨by show (0 : Int) ≤ ((allS need.length : Nat) : Int); omega, by show ((allS need.length : Nat) : Int) ≤ _; omega⟩, by show 0 ≤ lN need l b - 1; omega, by show lN need l b - 1 ≤ _; omega⟩
              have e1 := (fill_yes v1 hb.1 hb.2 (by rw [toPl_app]; exact h1)).1
              have e2 := (fill_no v2 hb.1 hb.2 (by rw [toPl_app]; exact h2)).1
              rw [e1, e2]
              rfl
theorem boxLack_law {x0 x1 x2 x3 : List PV} (h0 : TyL [.sl [.leaf (.int .i64)]] x0) (h1 : TyL [.sl [.leaf (.int .i64), .leaf (.int .i64)]] x1) (h2 : TyL [.leaf (.int .i64)] x2) (h3 : TyL [.leaf (.int .u8)] x3) : Pure Try.prog 8 [argP false x0, argP false x1, argP false x2, argP false x3] (.bool true) := by
  obtain ⟨need, rfl, _⟩ := sl_of (fun _ => i1_of) h0
  obtain ⟨l, rfl, _⟩ := sl_of (fun _ => pr_of) h1
  obtain ⟨b, rfl⟩ := int_of h2
  obtain ⟨o, rfl, ho⟩ := kint_of .u8 h3
  have h0 : 0 ≤ o := ho.1
  have h9 : o ≤ 255 := ho.2
  obtain ⟨o, rfl⟩ := Int.eq_ofNat_of_zero_le h0
  exact BoxLack_ok need l b o (by omega)
end Go.Proofs.Ytpamkihpffoflaa
