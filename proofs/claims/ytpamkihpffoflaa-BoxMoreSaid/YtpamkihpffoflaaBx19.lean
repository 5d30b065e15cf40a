/-
  Results that the document fixes; the law BoxMosts, the law BoxFills.
-/
import Derived.Test.YtpamkihpffoflaaBxFactsB
import Derived.Test.YtpamkihpffoflaaBxA
set_option linter.unusedVariables false
set_option maxRecDepth 100000
set_option maxHeartbeats 4000000
set_option linter.unusedSimpArgs false
namespace Go.Proofs.Ytpamkihpffoflaa
open Go.AF
theorem large_ok (need : List Int) (l : List Pr) : Pure Try.prog 10 [intsV need, rawV l] (.bool (decide (14 < (need.length : Int)) || decide (14 < (l.length : Int)))) := by
  refine Pure.start (N := 13) Try.func10 rfl rfl (Nat.le_of_ble_eq_true rfl) ?_
  refine AWp.seq ?_
  refine AWp.region ?_
  refine AList.c 4 rfl rfl rfl (OpJ.assign rfl rfl) ?_
  refine AList.nil ?_
  refine AWp.seq ?_
  refine AWp.region ?_
  refine AList.c 5 rfl rfl rfl (OpJ.move rfl rfl) ?_
  refine AList.c 6 rfl rfl rfl (OpJ.lenSlice rfl rfl sl22 rfl) ?_
  refine AList.c 7 rfl rfl rfl (OpJ.gtr rfl rfl rfl) ?_
  refine AList.c 8 rfl rfl rfl (OpJ.move rfl rfl) ?_
  refine AList.g 9 8 rfl rfl rfl rfl rfl rfl rfl [(1, _)] (fun h => And.intro (.inl rfl) (trivial)) (fun h => (OpJ.move rfl rfl)) ?_
  refine AList.g 10 8 rfl rfl rfl rfl rfl rfl rfl [(9, _)] (fun h => And.intro (.inr ⟨_, rfl, h⟩) (trivial)) (fun h => (OpJ.lenSlice rfl rfl sl23 rfl)) ?_
  refine AList.g 11 8 rfl rfl rfl rfl rfl rfl rfl [(10, _)] (fun h => And.intro (.inr ⟨_, rfl, h⟩) (trivial)) (fun h => (OpJ.gtr rfl rfl rfl)) ?_
  refine AList.c 12 rfl rfl rfl (OpJ.or_ rfl rfl rfl ?_) ?_
  · first | (intro h; rw [h]; rfl) | (intro h; simp_all)
  refine AList.c 4 rfl rfl rfl (OpJ.assign rfl rfl) ?_
  refine AList.nil ?_
  refine AWp.ret ?_
  exact Fin.one rfl (rfl)
theorem sample_ok  : Pure Try.prog 27 [] (.tuple [intsV sampN, rawV sampL]) := by
  refine Pure.start (N := 7) Try.func27 rfl rfl (Nat.le_of_ble_eq_true rfl) ?_
  refine AWp.seq ?_
  refine AWp.region ?_
  refine AList.c 0 rfl rfl rfl (OpJ.assign rfl rfl) ?_
  refine AList.c 1 rfl rfl rfl (OpJ.assign rfl rfl) ?_
  refine AList.nil ?_
  refine AWp.seq ?_
  refine AWp.region ?_
  refine AList.c 2 rfl rfl rfl (OpJ.buildImm rfl slz22 (by decide) rfl rfl rfl) ?_
  refine AList.c 3 rfl rfl rfl (OpJ.build rfl bd46 rfl rfl) ?_
  refine AList.c 4 rfl rfl rfl (OpJ.build rfl bd46 rfl rfl) ?_
  refine AList.c 5 rfl rfl rfl (OpJ.build rfl bd46 rfl rfl) ?_
  refine AList.c 6 rfl rfl rfl (OpJ.buildImm rfl slz23 (by decide) rfl rfl rfl) ?_
  refine AList.c 0 rfl rfl rfl (OpJ.assign rfl rfl) ?_
  refine AList.c 1 rfl rfl rfl (OpJ.assign rfl rfl) ?_
  refine AList.nil ?_
  refine AWp.ret ?_
  exact Fin.many (xs := [intsV sampN, rawV sampL]) rfl (⟨_, _, rfl, rfl, ⟨_, _, rfl, rfl, rfl⟩⟩) rfl
theorem awake_ok  : Pure Try.prog 11 [] (.bool true) := by
  refine Pure.start (N := 98) Try.func11 rfl rfl (Nat.le_of_ble_eq_true rfl) ?_
  refine AWp.seq ?_
  refine AWp.region ?_
  refine AList.c 0 rfl rfl rfl (OpJ.assign rfl rfl) ?_
  refine AList.nil ?_
  refine AWp.seq ?_
  refine AWp.region ?_
  refine AList.c 16 rfl rfl rfl (OpJ.callP (sample_ok) rfl rfl rfl rfl rf27) ?_
  refine AList.c 15 rfl rfl rfl (OpJ.move rfl rfl) ?_
  refine AList.c 17 rfl rfl rfl (OpJ.extract rfl rfl rfl) ?_
  refine AList.c 18 rfl rfl rfl (OpJ.extract rfl rfl rfl) ?_
  refine AList.c 1 rfl rfl rfl (OpJ.assign rfl rfl) ?_
  refine AList.c 2 rfl rfl rfl (OpJ.assign rfl rfl) ?_
  refine AList.nil ?_
  refine AWp.seq ?_
  refine AWp.region ?_
  refine AList.c 20 rfl rfl rfl (OpJ.move rfl rfl) ?_
  refine AList.c 21 rfl rfl rfl (OpJ.move rfl rfl) ?_
  refine AList.c 22 rfl rfl rfl (OpJ.callP (mostS) rfl rfl rfl rfl rf12) ?_
  refine AList.c 19 rfl rfl rfl (OpJ.move rfl rfl) ?_
  refine AList.c 23 rfl rfl rfl (OpJ.extract rfl rfl rfl) ?_
  refine AList.c 24 rfl rfl rfl (OpJ.extract rfl rfl rfl) ?_
  refine AList.c 25 rfl rfl rfl (OpJ.extract rfl rfl rfl) ?_
  refine AList.c 3 rfl rfl rfl (OpJ.assign rfl rfl) ?_
  refine AList.c 4 rfl rfl rfl (OpJ.assign rfl rfl) ?_
  refine AList.c 5 rfl rfl rfl (OpJ.assign rfl rfl) ?_
  refine AList.nil ?_
  refine AWp.seq ?_
  refine AWp.region ?_
  refine AList.c 27 rfl rfl rfl (OpJ.move rfl rfl) ?_
  refine AList.c 28 rfl rfl rfl (OpJ.move rfl rfl) ?_
  refine AList.c 29 rfl rfl rfl (OpJ.callP (fillS) rfl rfl rfl rfl rf16) ?_
  refine AList.c 26 rfl rfl rfl (OpJ.move rfl rfl) ?_
  refine AList.c 30 rfl rfl rfl (OpJ.extract rfl rfl rfl) ?_
  refine AList.c 31 rfl rfl rfl (OpJ.extract rfl rfl rfl) ?_
  refine AList.c 6 rfl rfl rfl (OpJ.assign rfl rfl) ?_
  refine AList.c 7 rfl rfl rfl (OpJ.assign rfl rfl) ?_
  refine AList.nil ?_
  refine AWp.seq ?_
  refine AWp.region ?_
  refine AList.c 33 rfl rfl rfl (OpJ.move rfl rfl) ?_
  refine AList.c 34 rfl rfl rfl (OpJ.move rfl rfl) ?_
  refine AList.c 35 rfl rfl rfl (OpJ.callP (useS) rfl rfl rfl rfl rf18) ?_
  refine AList.c 32 rfl rfl rfl (OpJ.move rfl rfl) ?_
  refine AList.c 36 rfl rfl rfl (OpJ.extract rfl rfl rfl) ?_
  refine AList.c 37 rfl rfl rfl (OpJ.extract rfl rfl rfl) ?_
  refine AList.c 8 rfl rfl rfl (OpJ.allocOwn rfl zr35 rfl) ?_
  refine AList.c0 rfl rfl (OpJ.store rfl rfl rfl rfl rfl ty35 rfl rfl) ?_
  refine AList.c 9 rfl rfl rfl (OpJ.assign rfl rfl) ?_
  refine AList.nil ?_
  refine AWp.seq ?_
  refine AWp.region ?_
  refine AList.c 39 rfl rfl rfl (OpJ.move rfl rfl) ?_
  refine AList.c 40 rfl rfl rfl (OpJ.move rfl rfl) ?_
  refine AList.c 41 rfl rfl rfl (OpJ.callP (lackS) rfl rfl rfl rfl rf14) ?_
  refine AList.c 38 rfl rfl rfl (OpJ.move rfl rfl) ?_
  refine AList.c 42 rfl rfl rfl (OpJ.extract rfl rfl rfl) ?_
  refine AList.c 43 rfl rfl rfl (OpJ.extract rfl rfl rfl) ?_
  refine AList.c 44 rfl rfl rfl (OpJ.extract rfl rfl rfl) ?_
  refine AList.c 10 rfl rfl rfl (OpJ.assign rfl rfl) ?_
  refine AList.c 11 rfl rfl rfl (OpJ.assign rfl rfl) ?_
  refine AList.c 12 rfl rfl rfl (OpJ.assign rfl rfl) ?_
  refine AList.nil ?_
  refine AWp.seq ?_
  refine AWp.region ?_
  refine AList.c 46 rfl rfl rfl (OpJ.move rfl rfl) ?_
  refine AList.c 47 rfl rfl rfl (OpJ.move rfl rfl) ?_
  refine AList.c 48 rfl rfl rfl (OpJ.callP (fillT) rfl rfl rfl rfl rf16) ?_
  refine AList.c 45 rfl rfl rfl (OpJ.move rfl rfl) ?_
  refine AList.c 49 rfl rfl rfl (OpJ.extract rfl rfl rfl) ?_
  refine AList.c 50 rfl rfl rfl (OpJ.extract rfl rfl rfl) ?_
  refine AList.c 13 rfl rfl rfl (OpJ.assign rfl rfl) ?_
  refine AList.c 14 rfl rfl rfl (OpJ.assign rfl rfl) ?_
  refine AList.nil ?_
  refine AWp.seq ?_
  refine AWp.regionDraw 48 mixed (by kernel_rfl) (by decide) ?_
  refine AQuiet.cons 51 rfl rfl rfl (OpJ.move rfl rfl) ?_
  refine AQuiet.cons 52 rfl rfl rfl (OpJ.eql rfl rfl rfl) ?_
  refine AQuiet.cons 53 rfl rfl rfl (OpJ.move rfl rfl) ?_
  refine AQuiet.guard 54 53 rfl rfl rfl rfl rfl rfl rfl [(4, _)] (fun h => And.intro (.inl rfl) (trivial)) (fun h => (OpJ.move rfl rfl)) ?_
  refine AQuiet.guard 55 53 rfl rfl rfl rfl rfl rfl rfl [(54, _)] (fun h => And.intro (.inr ⟨_, rfl, h⟩) (trivial)) (fun h => (OpJ.eql rfl rfl rfl)) ?_
  refine AQuiet.cons 56 rfl rfl rfl (OpJ.and_ rfl rfl rfl ?_) ?_
  · first | (intro h; rw [h]; rfl) | (intro h; simp_all)
  refine AQuiet.cons 57 rfl rfl rfl (OpJ.move rfl rfl) ?_
  refine AQuiet.guard 58 57 rfl rfl rfl rfl rfl rfl rfl [(5, _)] (fun h => And.intro (.inl rfl) (trivial)) (fun h => (OpJ.move rfl rfl)) ?_
  refine AQuiet.guard 59 57 rfl rfl rfl rfl rfl rfl rfl [(58, _)] (fun h => And.intro (.inr ⟨_, rfl, h⟩) (trivial)) (fun h => (OpJ.eql rfl rfl rfl)) ?_
  refine AQuiet.cons 60 rfl rfl rfl (OpJ.and_ rfl rfl rfl ?_) ?_
  · first | (intro h; rw [h]; rfl) | (intro h; simp_all)
  refine AQuiet.cons 61 rfl rfl rfl (OpJ.move rfl rfl) ?_
  refine AQuiet.guard 62 61 rfl rfl rfl rfl rfl rfl rfl [(6, _)] (fun h => And.intro (.inl rfl) (trivial)) (fun h => (OpJ.move rfl rfl)) ?_
  refine AQuiet.guard 63 61 rfl rfl rfl rfl rfl rfl rfl [] (fun h => trivial) (fun h => (OpJ.buildImm rfl slz22 (by decide) rfl rfl rfl)) ?_
  refine AQuiet.guard 64 61 rfl rfl rfl rfl rfl rfl rfl [] (fun h => trivial) (fun h => (OpJ.buildImm rfl slz22 (by decide) rfl rfl rfl)) ?_
  refine AQuiet.guard 65 61 rfl rfl rfl rfl rfl rfl rfl [] (fun h => trivial) (fun h => (OpJ.buildImm rfl slz22 (by decide) rfl rfl rfl)) ?_
  refine AQuiet.guard 66 61 rfl rfl rfl rfl rfl rfl rfl [(63, _), (64, _), (65, _)] (fun h => And.intro (.inr ⟨_, rfl, h⟩) (And.intro (.inr ⟨_, rfl, h⟩) (And.intro (.inr ⟨_, rfl, h⟩) (trivial)))) (fun h => (OpJ.buildImm rfl slz31 (by decide) rfl rfl rfl)) ?_
  refine AQuiet.guard 67 61 rfl rfl rfl rfl rfl rfl rfl [(62, _), (66, _)] (fun h => And.intro (.inr ⟨_, rfl, h⟩) (And.intro (.inr ⟨_, rfl, h⟩) (trivial))) (fun h => (OpJ.callP (rowsS) rfl rfl rfl rfl rf20)) ?_
  refine AQuiet.cons 68 rfl rfl rfl (OpJ.and_ rfl rfl rfl ?_) ?_
  · first | (intro h; rw [h]; rfl) | (intro h; simp_all)
  refine AQuiet.cons 69 rfl rfl rfl (OpJ.move rfl rfl) ?_
  refine AQuiet.guard 70 69 rfl rfl rfl rfl rfl rfl rfl [(7, _)] (fun h => And.intro (.inl rfl) (trivial)) (fun h => (OpJ.move rfl rfl)) ?_
  refine AQuiet.guard 71 69 rfl rfl rfl rfl rfl rfl rfl [(70, _)] (fun h => And.intro (.inr ⟨_, rfl, h⟩) (trivial)) (fun h => (OpJ.eql rfl rfl rfl)) ?_
  refine AQuiet.cons 72 rfl rfl rfl (OpJ.and_ rfl rfl rfl ?_) ?_
  · first | (intro h; rw [h]; rfl) | (intro h; simp_all)
  refine AQuiet.cons 73 rfl rfl rfl (OpJ.move rfl rfl) ?_
  refine AQuiet.guard 74 73 rfl rfl rfl rfl rfl rfl rfl [(8, _)] (fun h => And.intro (.inl rfl) (trivial)) (fun h => (OpJ.load rfl rfl ty35 rfl)) ?_
  refine AQuiet.guard 75 73 rfl rfl rfl rfl rfl rfl rfl [] (fun h => trivial) (fun h => (OpJ.callP (lspan_ok _ _) rfl rfl rfl rfl rf28)) ?_
  refine AQuiet.guard 76 73 rfl rfl rfl rfl rfl rfl rfl [(74, _), (75, _)] (fun h => And.intro (.inr ⟨_, rfl, h⟩) (And.intro (.inr ⟨_, rfl, h⟩) (trivial))) (fun h => (OpJ.eqAgg (d := 8) rfl (.inl rfl) rfl rfl (by decide) eq35 ty35 rfl eg35 rfl)) ?_
  refine AQuiet.cons 77 rfl rfl rfl (OpJ.and_ rfl rfl rfl ?_) ?_
  · first | (intro h; rw [h]; rfl) | (intro h; simp_all)
  refine AQuiet.cons 78 rfl rfl rfl (OpJ.move rfl rfl) ?_
  refine AQuiet.guard 79 78 rfl rfl rfl rfl rfl rfl rfl [(9, _)] (fun h => And.intro (.inl rfl) (trivial)) (fun h => (OpJ.move rfl rfl)) ?_
  refine AQuiet.guard 80 78 rfl rfl rfl rfl rfl rfl rfl [(79, _)] (fun h => And.intro (.inr ⟨_, rfl, h⟩) (trivial)) (fun h => (OpJ.eql rfl rfl rfl)) ?_
  refine AQuiet.cons 81 rfl rfl rfl (OpJ.and_ rfl rfl rfl ?_) ?_
  · first | (intro h; rw [h]; rfl) | (intro h; simp_all)
  refine AQuiet.cons 82 rfl rfl rfl (OpJ.move rfl rfl) ?_
  refine AQuiet.guard 83 82 rfl rfl rfl rfl rfl rfl rfl [(10, _)] (fun h => And.intro (.inl rfl) (trivial)) (fun h => (OpJ.move rfl rfl)) ?_
  refine AQuiet.guard 84 82 rfl rfl rfl rfl rfl rfl rfl [(83, _)] (fun h => And.intro (.inr ⟨_, rfl, h⟩) (trivial)) (fun h => (OpJ.eql rfl rfl rfl)) ?_
  refine AQuiet.cons 85 rfl rfl rfl (OpJ.and_ rfl rfl rfl ?_) ?_
  · first | (intro h; rw [h]; rfl) | (intro h; simp_all)
  refine AQuiet.cons 86 rfl rfl rfl (OpJ.move rfl rfl) ?_
  refine AQuiet.guard 87 86 rfl rfl rfl rfl rfl rfl rfl [(11, _)] (fun h => And.intro (.inl rfl) (trivial)) (fun h => (OpJ.move rfl rfl)) ?_
  refine AQuiet.guard 88 86 rfl rfl rfl rfl rfl rfl rfl [(87, _)] (fun h => And.intro (.inr ⟨_, rfl, h⟩) (trivial)) (fun h => (OpJ.eql rfl rfl rfl)) ?_
  refine AQuiet.cons 89 rfl rfl rfl (OpJ.and_ rfl rfl rfl ?_) ?_
  · first | (intro h; rw [h]; rfl) | (intro h; simp_all)
  refine AQuiet.cons 90 rfl rfl rfl (OpJ.move rfl rfl) ?_
  refine AQuiet.guard 91 90 rfl rfl rfl rfl rfl rfl rfl [(12, _)] (fun h => And.intro (.inl rfl) (trivial)) (fun h => (OpJ.move rfl rfl)) ?_
  refine AQuiet.guard 92 90 rfl rfl rfl rfl rfl rfl rfl [(91, _)] (fun h => And.intro (.inr ⟨_, rfl, h⟩) (trivial)) (fun h => (OpJ.eql rfl rfl rfl)) ?_
  refine AQuiet.cons 93 rfl rfl rfl (OpJ.and_ rfl rfl rfl ?_) ?_
  · first | (intro h; rw [h]; rfl) | (intro h; simp_all)
  refine AQuiet.cons 94 rfl rfl rfl (OpJ.move rfl rfl) ?_
  refine AQuiet.guard 95 94 rfl rfl rfl rfl rfl rfl rfl [(14, _)] (fun h => And.intro (.inl rfl) (trivial)) (fun h => (OpJ.move rfl rfl)) ?_
  refine AQuiet.guard 96 94 rfl rfl rfl rfl rfl rfl rfl [(95, _)] (fun h => And.intro (.inr ⟨_, rfl, h⟩) (trivial)) (fun h => (OpJ.eql rfl rfl rfl)) ?_
  refine AQuiet.cons 97 rfl rfl rfl (OpJ.and_ rfl rfl rfl ?_) ?_
  · first | (intro h; rw [h]; rfl) | (intro h; simp_all)
  refine AQuiet.cons 0 rfl rfl rfl (OpJ.assign rfl rfl) ?_
  refine AQuiet.nil ?_
  refine AList.nil ?_
  refine AWp.ret ?_
  refine Fin.oneE rfl rfl ?_
  rfl
theorem BoxMosts_ok (need : List Int) (l : List Pr) (b : Int) : Pure Try.prog 3 [intsV need, rawV l, .int .i64 b] (.bool true) := by
  refine Pure.start (N := 84) Try.func3 rfl rfl (Nat.le_of_ble_eq_true rfl) ?_
  refine AWp.seq ?_
  refine AWp.region ?_
  refine AList.c 6 rfl rfl rfl (OpJ.assign rfl rfl) ?_
  refine AList.nil ?_
  refine AWp.seq ?_
  refine AWp.seq ?_
  refine AWp.region ?_
  refine AList.c 19 rfl rfl rfl (OpJ.move rfl rfl) ?_
  refine AList.c 20 rfl rfl rfl (OpJ.move rfl rfl) ?_
  refine AList.c 21 rfl rfl rfl (OpJ.callP (large_ok need l) rfl rfl rfl rfl rf10) ?_
  refine AList.nil ?_
  refine AWp.cond _ rfl (fun hc0 => ?_) (fun hc0 => ?_)
  · skip
    refine AWp.seq ?_
    refine AWp.region ?_
    refine AList.c 22 rfl rfl rfl (OpJ.callP (awake_ok) rfl rfl rfl rfl rf11) ?_
    refine AList.c 6 rfl rfl rfl (OpJ.assign rfl rfl) ?_
    refine AList.nil ?_
    refine AWp.ret ?_
    refine Fin.oneE rfl rfl ?_
    rfl
  · skip
    have hnl : need.length ≤ bigN := by unfold bigN; simp at hc0; omega
    have hll : l.length ≤ bigN := by unfold bigN; simp at hc0; omega
    refine AWp.skip ?_
    refine AWp.seq ?_
    refine AWp.region ?_
    refine AList.c 24 rfl rfl rfl (OpJ.move rfl rfl) ?_
    refine AList.c 25 rfl rfl rfl (OpJ.move rfl rfl) ?_
    refine AList.c 26 rfl rfl rfl (OpJ.callP (bmost_ok need l hnl hll) rfl rfl rfl rfl rf12) ?_
    refine AList.c 23 rfl rfl rfl (OpJ.move rfl rfl) ?_
    refine AList.c 27 rfl rfl rfl (OpJ.extract rfl rfl rfl) ?_
    refine AList.c 28 rfl rfl rfl (OpJ.extract rfl rfl rfl) ?_
    refine AList.c 29 rfl rfl rfl (OpJ.extract rfl rfl rfl) ?_
    refine AList.c 7 rfl rfl rfl (OpJ.assign rfl rfl) ?_
    refine AList.c 8 rfl rfl rfl (OpJ.assign rfl rfl) ?_
    refine AList.c 9 rfl rfl rfl (OpJ.assign rfl rfl) ?_
    refine AList.nil ?_
    refine AWp.seq ?_
    refine AWp.region ?_
    refine AList.c 31 rfl rfl rfl (OpJ.move rfl rfl) ?_
    refine AList.c 32 rfl rfl rfl (OpJ.move rfl rfl) ?_
    refine AList.c 33 rfl rfl rfl (OpJ.callP (rmost_ok need l hnl hll) rfl rfl rfl rfl rf13) ?_
    refine AList.c 30 rfl rfl rfl (OpJ.move rfl rfl) ?_
    refine AList.c 34 rfl rfl rfl (OpJ.extract rfl rfl rfl) ?_
    refine AList.c 35 rfl rfl rfl (OpJ.extract rfl rfl rfl) ?_
    refine AList.c 36 rfl rfl rfl (OpJ.extract rfl rfl rfl) ?_
    refine AList.c 10 rfl rfl rfl (OpJ.assign rfl rfl) ?_
    refine AList.c 11 rfl rfl rfl (OpJ.assign rfl rfl) ?_
    refine AList.c 12 rfl rfl rfl (OpJ.assign rfl rfl) ?_
    refine AList.nil ?_
    refine AWp.seq ?_
    refine AWp.region ?_
    refine AList.c 38 rfl rfl rfl (OpJ.move rfl rfl) ?_
    refine AList.c 39 rfl rfl rfl (OpJ.move rfl rfl) ?_
    refine AList.c 40 rfl rfl rfl (OpJ.move rfl rfl) ?_
    refine AList.c 41 rfl rfl rfl (OpJ.callP (bLack_ok need l b hnl hll) rfl rfl rfl rfl rf14) ?_
    refine AList.c 37 rfl rfl rfl (OpJ.move rfl rfl) ?_
    refine AList.c 42 rfl rfl rfl (OpJ.extract rfl rfl rfl) ?_
    refine AList.c 43 rfl rfl rfl (OpJ.extract rfl rfl rfl) ?_
    refine AList.c 44 rfl rfl rfl (OpJ.extract rfl rfl rfl) ?_
    refine AList.c 13 rfl rfl rfl (OpJ.assign rfl rfl) ?_
    refine AList.c 14 rfl rfl rfl (OpJ.assign rfl rfl) ?_
    refine AList.c 15 rfl rfl rfl (OpJ.assign rfl rfl) ?_
    refine AList.nil ?_
    refine AWp.seq ?_
    refine AWp.region ?_
    refine AList.c 46 rfl rfl rfl (OpJ.move rfl rfl) ?_
    refine AList.c 47 rfl rfl rfl (OpJ.move rfl rfl) ?_
    refine AList.c 48 rfl rfl rfl (OpJ.move rfl rfl) ?_
    refine AList.c 49 rfl rfl rfl (OpJ.callP (rLack_ok need l b hnl hll) rfl rfl rfl rfl rf15) ?_
    refine AList.c 45 rfl rfl rfl (OpJ.move rfl rfl) ?_
    refine AList.c 50 rfl rfl rfl (OpJ.extract rfl rfl rfl) ?_
    refine AList.c 51 rfl rfl rfl (OpJ.extract rfl rfl rfl) ?_
    refine AList.c 52 rfl rfl rfl (OpJ.extract rfl rfl rfl) ?_
    refine AList.c 16 rfl rfl rfl (OpJ.assign rfl rfl) ?_
    refine AList.c 17 rfl rfl rfl (OpJ.assign rfl rfl) ?_
    refine AList.c 18 rfl rfl rfl (OpJ.assign rfl rfl) ?_
    refine AList.nil ?_
    refine AWp.seq ?_
    refine AWp.region ?_
    refine AList.c 53 rfl rfl rfl (OpJ.move rfl rfl) ?_
    refine AList.c 54 rfl rfl rfl (OpJ.move rfl rfl) ?_
    refine AList.c 55 rfl rfl rfl (OpJ.eql rfl rfl rfl) ?_
    refine AList.c 56 rfl rfl rfl (OpJ.move rfl rfl) ?_
    refine AList.g 57 56 rfl rfl rfl rfl rfl rfl rfl [(8, _)] (fun h => And.intro (.inl rfl) (trivial)) (fun h => (OpJ.move rfl rfl)) ?_
    refine AList.g 58 56 rfl rfl rfl rfl rfl rfl rfl [(11, _)] (fun h => And.intro (.inl rfl) (trivial)) (fun h => (OpJ.move rfl rfl)) ?_
    refine AList.g 59 56 rfl rfl rfl rfl rfl rfl rfl [(57, _), (58, _)] (fun h => And.intro (.inr ⟨_, rfl, h⟩) (And.intro (.inr ⟨_, rfl, h⟩) (trivial))) (fun h => (OpJ.eql rfl rfl rfl)) ?_
    refine AList.c 60 rfl rfl rfl (OpJ.and_ rfl rfl rfl ?_) ?_
    · first | (intro h; rw [h]; rfl) | (intro h; simp_all)
    refine AList.c 61 rfl rfl rfl (OpJ.move rfl rfl) ?_
    refine AList.g 62 61 rfl rfl rfl rfl rfl rfl rfl [(9, _)] (fun h => And.intro (.inl rfl) (trivial)) (fun h => (OpJ.move rfl rfl)) ?_
    refine AList.g 63 61 rfl rfl rfl rfl rfl rfl rfl [(12, _)] (fun h => And.intro (.inl rfl) (trivial)) (fun h => (OpJ.move rfl rfl)) ?_
    refine AList.g 64 61 rfl rfl rfl rfl rfl rfl rfl [(62, _), (63, _)] (fun h => And.intro (.inr ⟨_, rfl, h⟩) (And.intro (.inr ⟨_, rfl, h⟩) (trivial))) (fun h => (OpJ.eql rfl rfl rfl)) ?_
    refine AList.c 65 rfl rfl rfl (OpJ.and_ rfl rfl rfl ?_) ?_
    · first | (intro h; rw [h]; rfl) | (intro h; simp_all)
    refine AList.c 66 rfl rfl rfl (OpJ.move rfl rfl) ?_
    refine AList.g 67 66 rfl rfl rfl rfl rfl rfl rfl [(13, _)] (fun h => And.intro (.inl rfl) (trivial)) (fun h => (OpJ.move rfl rfl)) ?_
    refine AList.g 68 66 rfl rfl rfl rfl rfl rfl rfl [(16, _)] (fun h => And.intro (.inl rfl) (trivial)) (fun h => (OpJ.move rfl rfl)) ?_
    refine AList.g 69 66 rfl rfl rfl rfl rfl rfl rfl [(67, _), (68, _)] (fun h => And.intro (.inr ⟨_, rfl, h⟩) (And.intro (.inr ⟨_, rfl, h⟩) (trivial))) (fun h => (OpJ.eql rfl rfl rfl)) ?_
    refine AList.c 70 rfl rfl rfl (OpJ.and_ rfl rfl rfl ?_) ?_
    · first | (intro h; rw [h]; rfl) | (intro h; simp_all)
    refine AList.c 71 rfl rfl rfl (OpJ.move rfl rfl) ?_
    refine AList.g 72 71 rfl rfl rfl rfl rfl rfl rfl [(14, _)] (fun h => And.intro (.inl rfl) (trivial)) (fun h => (OpJ.move rfl rfl)) ?_
    refine AList.g 73 71 rfl rfl rfl rfl rfl rfl rfl [(17, _)] (fun h => And.intro (.inl rfl) (trivial)) (fun h => (OpJ.move rfl rfl)) ?_
    refine AList.g 74 71 rfl rfl rfl rfl rfl rfl rfl [(72, _), (73, _)] (fun h => And.intro (.inr ⟨_, rfl, h⟩) (And.intro (.inr ⟨_, rfl, h⟩) (trivial))) (fun h => (OpJ.eql rfl rfl rfl)) ?_
    refine AList.c 75 rfl rfl rfl (OpJ.and_ rfl rfl rfl ?_) ?_
    · first | (intro h; rw [h]; rfl) | (intro h; simp_all)
    refine AList.c 76 rfl rfl rfl (OpJ.move rfl rfl) ?_
    refine AList.g 77 76 rfl rfl rfl rfl rfl rfl rfl [(15, _)] (fun h => And.intro (.inl rfl) (trivial)) (fun h => (OpJ.move rfl rfl)) ?_
    refine AList.g 78 76 rfl rfl rfl rfl rfl rfl rfl [(18, _)] (fun h => And.intro (.inl rfl) (trivial)) (fun h => (OpJ.move rfl rfl)) ?_
    refine AList.g 79 76 rfl rfl rfl rfl rfl rfl rfl [(77, _), (78, _)] (fun h => And.intro (.inr ⟨_, rfl, h⟩) (And.intro (.inr ⟨_, rfl, h⟩) (trivial))) (fun h => (OpJ.eql rfl rfl rfl)) ?_
    refine AList.c 80 rfl rfl rfl (OpJ.and_ rfl rfl rfl ?_) ?_
    · first | (intro h; rw [h]; rfl) | (intro h; simp_all)
    refine AList.c 81 rfl rfl rfl (OpJ.move rfl rfl) ?_
    refine AList.g 82 81 rfl rfl rfl rfl rfl rfl rfl [] (fun h => trivial) (fun h => (OpJ.callP (awake_ok) rfl rfl rfl rfl rf11)) ?_
    refine AList.c 83 rfl rfl rfl (OpJ.and_ rfl rfl rfl ?_) ?_
    · first | (intro h; rw [h]; rfl) | (intro h; simp_all)
    refine AList.c 6 rfl rfl rfl (OpJ.assign rfl rfl) ?_
    refine AList.nil ?_
    refine AWp.ret ?_
    refine Fin.oneE rfl rfl ?_
    simp
theorem BoxFills_ok (need : List Int) (l : List Pr) (b k : Int) : Pure Try.prog 4 [intsV need, rawV l, .int .i64 b, .int .i64 k] (.bool true) := by
  refine Pure.start (N := 72) Try.func4 rfl rfl (Nat.le_of_ble_eq_true rfl) ?_
  refine AWp.seq ?_
  refine AWp.region ?_
  refine AList.c 8 rfl rfl rfl (OpJ.assign rfl rfl) ?_
  refine AList.nil ?_
  refine AWp.seq ?_
  refine AWp.seq ?_
  refine AWp.region ?_
  refine AList.c 17 rfl rfl rfl (OpJ.move rfl rfl) ?_
  refine AList.c 18 rfl rfl rfl (OpJ.move rfl rfl) ?_
  refine AList.c 19 rfl rfl rfl (OpJ.callP (large_ok need l) rfl rfl rfl rfl rf10) ?_
  refine AList.nil ?_
  refine AWp.cond _ rfl (fun hc0 => ?_) (fun hc0 => ?_)
  · skip
    refine AWp.seq ?_
    refine AWp.region ?_
    refine AList.c 20 rfl rfl rfl (OpJ.callP (awake_ok) rfl rfl rfl rfl rf11) ?_
    refine AList.c 8 rfl rfl rfl (OpJ.assign rfl rfl) ?_
    refine AList.nil ?_
    refine AWp.ret ?_
    refine Fin.oneE rfl rfl ?_
    rfl
  · skip
    have hnl : need.length ≤ bigN := by unfold bigN; simp at hc0; omega
    have hll : l.length ≤ bigN := by unfold bigN; simp at hc0; omega
    refine AWp.skip ?_
    refine AWp.seq ?_
    refine AWp.region ?_
    refine AList.c 22 rfl rfl rfl (OpJ.move rfl rfl) ?_
    refine AList.c 23 rfl rfl rfl (OpJ.move rfl rfl) ?_
    refine AList.c 24 rfl rfl rfl (OpJ.move rfl rfl) ?_
    refine AList.c 25 rfl rfl rfl (OpJ.callP (bfill_ok need l b hnl hll) rfl rfl rfl rfl rf16) ?_
    refine AList.c 21 rfl rfl rfl (OpJ.move rfl rfl) ?_
    refine AList.c 26 rfl rfl rfl (OpJ.extract rfl rfl rfl) ?_
    refine AList.c 27 rfl rfl rfl (OpJ.extract rfl rfl rfl) ?_
    refine AList.c 9 rfl rfl rfl (OpJ.assign rfl rfl) ?_
    refine AList.c 10 rfl rfl rfl (OpJ.assign rfl rfl) ?_
    refine AList.nil ?_
    refine AWp.seq ?_
    refine AWp.region ?_
    refine AList.c 29 rfl rfl rfl (OpJ.move rfl rfl) ?_
    refine AList.c 30 rfl rfl rfl (OpJ.move rfl rfl) ?_
    refine AList.c 31 rfl rfl rfl (OpJ.move rfl rfl) ?_
    refine AList.c 32 rfl rfl rfl (OpJ.callP (rfill_ok need l b hnl hll) rfl rfl rfl rfl rf17) ?_
    refine AList.c 28 rfl rfl rfl (OpJ.move rfl rfl) ?_
    refine AList.c 33 rfl rfl rfl (OpJ.extract rfl rfl rfl) ?_
    refine AList.c 34 rfl rfl rfl (OpJ.extract rfl rfl rfl) ?_
    refine AList.c 11 rfl rfl rfl (OpJ.assign rfl rfl) ?_
    refine AList.c 12 rfl rfl rfl (OpJ.assign rfl rfl) ?_
    refine AList.nil ?_
    refine AWp.seq ?_
    refine AWp.region ?_
    refine AList.c 36 rfl rfl rfl (OpJ.move rfl rfl) ?_
    refine AList.c 37 rfl rfl rfl (OpJ.move rfl rfl) ?_
    refine AList.c 38 rfl rfl rfl (OpJ.move rfl rfl) ?_
    refine AList.c 39 rfl rfl rfl (OpJ.move rfl rfl) ?_
    refine AList.c 40 rfl rfl rfl (OpJ.callP (buse_ok need l b k hnl hll) rfl rfl rfl rfl rf18) ?_
    refine AList.c 35 rfl rfl rfl (OpJ.move rfl rfl) ?_
    refine AList.c 41 rfl rfl rfl (OpJ.extract rfl rfl rfl) ?_
    refine AList.c 42 rfl rfl rfl (OpJ.extract rfl rfl rfl) ?_
    refine AList.c 13 rfl rfl rfl (OpJ.allocOwn rfl zr35 rfl) ?_
    refine AList.c0 rfl rfl (OpJ.store rfl rfl rfl rfl rfl ty35 rfl rfl) ?_
    refine AList.c 14 rfl rfl rfl (OpJ.assign rfl rfl) ?_
    refine AList.nil ?_
    refine AWp.seq ?_
    refine AWp.region ?_
    refine AList.c 44 rfl rfl rfl (OpJ.move rfl rfl) ?_
    refine AList.c 45 rfl rfl rfl (OpJ.move rfl rfl) ?_
    refine AList.c 46 rfl rfl rfl (OpJ.move rfl rfl) ?_
    refine AList.c 47 rfl rfl rfl (OpJ.move rfl rfl) ?_
    refine AList.c 48 rfl rfl rfl (OpJ.callP (ruse_ok need l b k hnl hll) rfl rfl rfl rfl rf19) ?_
    refine AList.c 43 rfl rfl rfl (OpJ.move rfl rfl) ?_
    refine AList.c 49 rfl rfl rfl (OpJ.extract rfl rfl rfl) ?_
    refine AList.c 50 rfl rfl rfl (OpJ.extract rfl rfl rfl) ?_
    refine AList.c 15 rfl rfl rfl (OpJ.allocOwn rfl zr35 rfl) ?_
    refine AList.c0 rfl rfl (OpJ.store rfl rfl rfl rfl rfl ty35 rfl rfl) ?_
    refine AList.c 16 rfl rfl rfl (OpJ.assign rfl rfl) ?_
    refine AList.nil ?_
    refine AWp.seq ?_
    refine AWp.region ?_
    refine AList.c 51 rfl rfl rfl (OpJ.move rfl rfl) ?_
    refine AList.c 52 rfl rfl rfl (OpJ.move rfl rfl) ?_
    refine AList.c 53 rfl rfl rfl (OpJ.callP (rowsSame need l b hnl) rfl rfl rfl rfl rf20) ?_
    refine AList.c 54 rfl rfl rfl (OpJ.move rfl rfl) ?_
    refine AList.g 55 54 rfl rfl rfl rfl rfl rfl rfl [(10, _)] (fun h => And.intro (.inl rfl) (trivial)) (fun h => (OpJ.move rfl rfl)) ?_
    refine AList.g 56 54 rfl rfl rfl rfl rfl rfl rfl [(12, _)] (fun h => And.intro (.inl rfl) (trivial)) (fun h => (OpJ.move rfl rfl)) ?_
    refine AList.g 57 54 rfl rfl rfl rfl rfl rfl rfl [(55, _), (56, _)] (fun h => And.intro (.inr ⟨_, rfl, h⟩) (And.intro (.inr ⟨_, rfl, h⟩) (trivial))) (fun h => (OpJ.eql rfl rfl rfl)) ?_
    refine AList.c 58 rfl rfl rfl (OpJ.and_ rfl rfl rfl ?_) ?_
    · first | (intro h; rw [h]; rfl) | (intro h; simp_all)
    refine AList.c 59 rfl rfl rfl (OpJ.move rfl rfl) ?_
    refine AList.g 60 59 rfl rfl rfl rfl rfl rfl rfl [(13, _)] (fun h => And.intro (.inl rfl) (trivial)) (fun h => (OpJ.load rfl rfl ty35 rfl)) ?_
    refine AList.g 61 59 rfl rfl rfl rfl rfl rfl rfl [(15, _)] (fun h => And.intro (.inl rfl) (trivial)) (fun h => (OpJ.load rfl rfl ty35 rfl)) ?_
    refine AList.g 62 59 rfl rfl rfl rfl rfl rfl rfl [(60, _), (61, _)] (fun h => And.intro (.inr ⟨_, rfl, h⟩) (And.intro (.inr ⟨_, rfl, h⟩) (trivial))) (fun h => (OpJ.eqAgg (d := 8) rfl (.inl rfl) rfl rfl (by decide) eq35 ty35 rfl eg35 rfl)) ?_
    refine AList.c 63 rfl rfl rfl (OpJ.and_ rfl rfl rfl ?_) ?_
    · first | (intro h; rw [h]; rfl) | (intro h; simp_all)
    refine AList.c 64 rfl rfl rfl (OpJ.move rfl rfl) ?_
    refine AList.g 65 64 rfl rfl rfl rfl rfl rfl rfl [(14, _)] (fun h => And.intro (.inl rfl) (trivial)) (fun h => (OpJ.move rfl rfl)) ?_
    refine AList.g 66 64 rfl rfl rfl rfl rfl rfl rfl [(16, _)] (fun h => And.intro (.inl rfl) (trivial)) (fun h => (OpJ.move rfl rfl)) ?_
    refine AList.g 67 64 rfl rfl rfl rfl rfl rfl rfl [(65, _), (66, _)] (fun h => And.intro (.inr ⟨_, rfl, h⟩) (And.intro (.inr ⟨_, rfl, h⟩) (trivial))) (fun h => (OpJ.eql rfl rfl rfl)) ?_
    refine AList.c 68 rfl rfl rfl (OpJ.and_ rfl rfl rfl ?_) ?_
    · first | (intro h; rw [h]; rfl) | (intro h; simp_all)
    refine AList.c 69 rfl rfl rfl (OpJ.move rfl rfl) ?_
    refine AList.g 70 69 rfl rfl rfl rfl rfl rfl rfl [] (fun h => trivial) (fun h => (OpJ.callP (awake_ok) rfl rfl rfl rfl rf11)) ?_
    refine AList.c 71 rfl rfl rfl (OpJ.and_ rfl rfl rfl ?_) ?_
    · first | (intro h; rw [h]; rfl) | (intro h; simp_all)
    refine AList.c 8 rfl rfl rfl (OpJ.assign rfl rfl) ?_
    refine AList.nil ?_
    refine AWp.ret ?_
    refine Fin.oneE rfl rfl ?_
    simp
theorem boxMosts_law {x0 x1 x2 : List PV} (h0 : TyL [.sl [.leaf (.int .i64)]] x0) (h1 : TyL [.sl [.leaf (.int .i64), .leaf (.int .i64)]] x1) (h2 : TyL [.leaf (.int .i64)] x2) : Pure Try.prog 3 [argP false x0, argP false x1, argP false x2] (.bool true) := by
  obtain ⟨need, rfl, _⟩ := sl_of (fun _ => i1_of) h0
  obtain ⟨l, rfl, _⟩ := sl_of (fun _ => pr_of) h1
  obtain ⟨b, rfl⟩ := int_of h2
  exact BoxMosts_ok need l b
theorem boxFills_law {x0 x1 x2 x3 : List PV} (h0 : TyL [.sl [.leaf (.int .i64)]] x0) (h1 : TyL [.sl [.leaf (.int .i64), .leaf (.int .i64)]] x1) (h2 : TyL [.leaf (.int .i64)] x2) (h3 : TyL [.leaf (.int .i64)] x3) : Pure Try.prog 4 [argP false x0, argP false x1, argP false x2, argP false x3] (.bool true) := by
  obtain ⟨need, rfl, _⟩ := sl_of (fun _ => i1_of) h0
  obtain ⟨l, rfl, _⟩ := sl_of (fun _ => pr_of) h1
  obtain ⟨b, rfl⟩ := int_of h2
  obtain ⟨k, rfl⟩ := int_of h3
  exact BoxFills_ok need l b k
end Go.Proofs.Ytpamkihpffoflaa
