/-
  Results that the document fixes; the law SackWeighs, the law SackMixes.
-/
import Derived.Test.YtmcejcidbekpkaaSkA
set_option linter.unusedVariables false
set_option maxRecDepth 100000
set_option maxHeartbeats 4000000
set_option linter.unusedSimpArgs false
namespace Go.Proofs.Ytmcejcidbekpkaa
open Go.AF
theorem large_ok (l : List Sk) (b : List Tk) : Pure Try.prog 9 [sacksV l, takesV b] (.bool (decide (12 < (l.length : Int)) || decide (12 < (b.length : Int)))) := by
  refine Pure.start (N := 13) Try.func9 rfl rfl (Nat.le_of_ble_eq_true rfl) ?_
  refine AWp.seq ?_
  refine AWp.region ?_
  refine AList.c 4 rfl rfl rfl (OpJ.assign rfl rfl) ?_
  refine AList.nil ?_
  refine AWp.seq ?_
  refine AWp.region ?_
  refine AList.c 5 rfl rfl rfl (OpJ.move rfl rfl) ?_
  refine AList.c 6 rfl rfl rfl (OpJ.lenSlice rfl rfl sl22 rfl) ?_
  refine AList.c 7 rfl rfl rfl (OpJ.gtr rfl rfl rfl) ?_
  refine AList.c 8 rfl rfl rfl (OpJ.move rfl rfl) ?_
  refine AList.g 9 8 rfl rfl rfl rfl rfl rfl rfl [(1, _)] (fun h => And.intro (.inl rfl) (trivial)) (fun h => (OpJ.move rfl rfl)) ?_
  refine AList.g 10 8 rfl rfl rfl rfl rfl rfl rfl [(9, _)] (fun h => And.intro (.inr ⟨_, rfl, h⟩) (trivial)) (fun h => (OpJ.lenSlice rfl rfl sl23 rfl)) ?_
  refine AList.g 11 8 rfl rfl rfl rfl rfl rfl rfl [(10, _)] (fun h => And.intro (.inr ⟨_, rfl, h⟩) (trivial)) (fun h => (OpJ.gtr rfl rfl rfl)) ?_
  refine AList.c 12 rfl rfl rfl (OpJ.or_ rfl rfl rfl ?_) ?_
  · first | (intro h; rw [h]; rfl) | (intro h; simp_all)
  refine AList.c 4 rfl rfl rfl (OpJ.assign rfl rfl) ?_
  refine AList.nil ?_
  refine AWp.ret ?_
  exact Fin.one rfl (rfl)
theorem large0_ok (l : List Sk) : Pure Try.prog 9 [sacksV l, .nilSlice] (.bool (decide (12 < (l.length : Int)) || decide (12 < (0 : Int)))) := by
  refine Pure.start (N := 13) Try.func9 rfl rfl (Nat.le_of_ble_eq_true rfl) ?_
  refine AWp.seq ?_
  refine AWp.region ?_
  refine AList.c 4 rfl rfl rfl (OpJ.assign rfl rfl) ?_
  refine AList.nil ?_
  refine AWp.seq ?_
  refine AWp.region ?_
  refine AList.c 5 rfl rfl rfl (OpJ.move rfl rfl) ?_
  refine AList.c 6 rfl rfl rfl (OpJ.lenSlice rfl rfl sl22 rfl) ?_
  refine AList.c 7 rfl rfl rfl (OpJ.gtr rfl rfl rfl) ?_
  refine AList.c 8 rfl rfl rfl (OpJ.move rfl rfl) ?_
  refine AList.g 9 8 rfl rfl rfl rfl rfl rfl rfl [(1, _)] (fun h => And.intro (.inl rfl) (trivial)) (fun h => (OpJ.move rfl rfl)) ?_
  refine AList.g 10 8 rfl rfl rfl rfl rfl rfl rfl [(9, _)] (fun h => And.intro (.inr ⟨_, rfl, h⟩) (trivial)) (fun h => (OpJ.lenSlice rfl rfl sl23 rfl)) ?_
  refine AList.g 11 8 rfl rfl rfl rfl rfl rfl rfl [(10, _)] (fun h => And.intro (.inr ⟨_, rfl, h⟩) (trivial)) (fun h => (OpJ.gtr rfl rfl rfl)) ?_
  refine AList.c 12 rfl rfl rfl (OpJ.or_ rfl rfl rfl ?_) ?_
  · first | (intro h; rw [h]; rfl) | (intro h; simp_all)
  refine AList.c 4 rfl rfl rfl (OpJ.assign rfl rfl) ?_
  refine AList.nil ?_
  refine AWp.ret ?_
  exact Fin.one rfl (rfl)
theorem sample_ok  : Pure Try.prog 29 [] (.tuple [sacksV sampL, takesV sampB]) := by
  refine Pure.start (N := 14) Try.func29 rfl rfl (Nat.le_of_ble_eq_true rfl) ?_
  refine AWp.seq ?_
  refine AWp.region ?_
  refine AList.c 0 rfl rfl rfl (OpJ.assign rfl rfl) ?_
  refine AList.c 1 rfl rfl rfl (OpJ.assign rfl rfl) ?_
  refine AList.nil ?_
  refine AWp.seq ?_
  refine AWp.region ?_
  refine AList.c 2 rfl rfl rfl (OpJ.callP (lspan_ok _ _) rfl rfl rfl rfl rf24) ?_
  refine AList.c 3 rfl rfl rfl (OpJ.callP (lspan_ok _ _) rfl rfl rfl rfl rf24) ?_
  refine AList.c 4 rfl rfl rfl (OpJ.build rfl bd57 rfl rfl) ?_
  refine AList.c 5 rfl rfl rfl (OpJ.callP (lspan_ok _ _) rfl rfl rfl rfl rf24) ?_
  refine AList.c 6 rfl rfl rfl (OpJ.callP (lspan_ok _ _) rfl rfl rfl rfl rf24) ?_
  refine AList.c 7 rfl rfl rfl (OpJ.build rfl bd57 rfl rfl) ?_
  refine AList.c 8 rfl rfl rfl (OpJ.buildImm rfl slz22 (by decide) rfl rfl rfl) ?_
  refine AList.c 9 rfl rfl rfl (OpJ.callP (lspan_ok _ _) rfl rfl rfl rfl rf24) ?_
  refine AList.c 10 rfl rfl rfl (OpJ.build rfl bd51 rfl rfl) ?_
  refine AList.c 11 rfl rfl rfl (OpJ.callP (lspan_ok _ _) rfl rfl rfl rfl rf24) ?_
  refine AList.c 12 rfl rfl rfl (OpJ.build rfl bd51 rfl rfl) ?_
  refine AList.c 13 rfl rfl rfl (OpJ.buildImm rfl slz23 (by decide) rfl rfl rfl) ?_
  refine AList.c 0 rfl rfl rfl (OpJ.assign rfl rfl) ?_
  refine AList.c 1 rfl rfl rfl (OpJ.assign rfl rfl) ?_
  refine AList.nil ?_
  refine AWp.ret ?_
  exact Fin.many (xs := [sacksV sampL, takesV sampB]) rfl (⟨_, _, rfl, rfl, ⟨_, _, rfl, rfl, rfl⟩⟩) rfl
theorem awake_ok  : Pure Try.prog 10 [] (.bool true) := by
  refine Pure.start (N := 91) Try.func10 rfl rfl (Nat.le_of_ble_eq_true rfl) ?_
  refine AWp.seq ?_
  refine AWp.region ?_
  refine AList.c 0 rfl rfl rfl (OpJ.assign rfl rfl) ?_
  refine AList.nil ?_
  refine AWp.seq ?_
  refine AWp.region ?_
  refine AList.c 14 rfl rfl rfl (OpJ.callP (sample_ok) rfl rfl rfl rfl rf29) ?_
  refine AList.c 13 rfl rfl rfl (OpJ.move rfl rfl) ?_
  refine AList.c 15 rfl rfl rfl (OpJ.extract rfl rfl rfl) ?_
  refine AList.c 16 rfl rfl rfl (OpJ.extract rfl rfl rfl) ?_
  refine AList.c 1 rfl rfl rfl (OpJ.assign rfl rfl) ?_
  refine AList.c 2 rfl rfl rfl (OpJ.assign rfl rfl) ?_
  refine AList.nil ?_
  refine AWp.seq ?_
  refine AWp.region ?_
  refine AList.c 18 rfl rfl rfl (OpJ.move rfl rfl) ?_
  refine AList.c 19 rfl rfl rfl (OpJ.move rfl rfl) ?_
  refine AList.c 20 rfl rfl rfl (OpJ.callP (weighS) rfl rfl rfl rfl rf11) ?_
  refine AList.c 17 rfl rfl rfl (OpJ.move rfl rfl) ?_
  refine AList.c 21 rfl rfl rfl (OpJ.extract rfl rfl rfl) ?_
  refine AList.c 22 rfl rfl rfl (OpJ.extract rfl rfl rfl) ?_
  refine AList.c 3 rfl rfl rfl (OpJ.allocOwn rfl zr29 rfl) ?_
  refine AList.c0 rfl rfl (OpJ.store rfl rfl rfl rfl rfl ty29 rfl rfl) ?_
  refine AList.c 4 rfl rfl rfl (OpJ.assign rfl rfl) ?_
  refine AList.nil ?_
  refine AWp.seq ?_
  refine AWp.region ?_
  refine AList.c 24 rfl rfl rfl (OpJ.move rfl rfl) ?_
  refine AList.c 25 rfl rfl rfl (OpJ.move rfl rfl) ?_
  refine AList.c 26 rfl rfl rfl (OpJ.callP (shareS) rfl rfl rfl rfl rf13) ?_
  refine AList.c 23 rfl rfl rfl (OpJ.move rfl rfl) ?_
  refine AList.c 27 rfl rfl rfl (OpJ.extract rfl rfl rfl) ?_
  refine AList.c 28 rfl rfl rfl (OpJ.extract rfl rfl rfl) ?_
  refine AList.c 5 rfl rfl rfl (OpJ.allocOwn rfl zr25 rfl) ?_
  refine AList.c0 rfl rfl (OpJ.store rfl rfl rfl rfl rfl ty25 rfl rfl) ?_
  refine AList.c 6 rfl rfl rfl (OpJ.assign rfl rfl) ?_
  refine AList.nil ?_
  refine AWp.seq ?_
  refine AWp.region ?_
  refine AList.c 30 rfl rfl rfl (OpJ.move rfl rfl) ?_
  refine AList.c 31 rfl rfl rfl (OpJ.move rfl rfl) ?_
  refine AList.c 32 rfl rfl rfl (OpJ.callP (lspan_ok _ _) rfl rfl rfl rfl rf24) ?_
  refine AList.c 33 rfl rfl rfl (OpJ.callP (waterS) rfl rfl rfl rfl rf15) ?_
  refine AList.c 29 rfl rfl rfl (OpJ.move rfl rfl) ?_
  refine AList.c 34 rfl rfl rfl (OpJ.extract rfl rfl rfl) ?_
  refine AList.c 35 rfl rfl rfl (OpJ.extract rfl rfl rfl) ?_
  refine AList.c 7 rfl rfl rfl (OpJ.allocOwn rfl zr25 rfl) ?_
  refine AList.c0 rfl rfl (OpJ.store rfl rfl rfl rfl rfl ty25 rfl rfl) ?_
  refine AList.c 8 rfl rfl rfl (OpJ.assign rfl rfl) ?_
  refine AList.nil ?_
  refine AWp.seq ?_
  refine AWp.region ?_
  refine AList.c 37 rfl rfl rfl (OpJ.move rfl rfl) ?_
  refine AList.c 38 rfl rfl rfl (OpJ.callP (lspan_ok _ _) rfl rfl rfl rfl rf24) ?_
  refine AList.c 39 rfl rfl rfl (OpJ.callP (mixA) rfl rfl rfl rfl rf17) ?_
  refine AList.c 36 rfl rfl rfl (OpJ.move rfl rfl) ?_
  refine AList.c 40 rfl rfl rfl (OpJ.extract rfl rfl rfl) ?_
  refine AList.c 41 rfl rfl rfl (OpJ.extract rfl rfl rfl) ?_
  refine AList.c 9 rfl rfl rfl (OpJ.allocOwn rfl zr25 rfl) ?_
  refine AList.c0 rfl rfl (OpJ.store rfl rfl rfl rfl rfl ty25 rfl rfl) ?_
  refine AList.c 10 rfl rfl rfl (OpJ.assign rfl rfl) ?_
  refine AList.nil ?_
  refine AWp.seq ?_
  refine AWp.region ?_
  refine AList.c 43 rfl rfl rfl (OpJ.move rfl rfl) ?_
  refine AList.c 44 rfl rfl rfl (OpJ.callP (lspan_ok _ _) rfl rfl rfl rfl rf24) ?_
  refine AList.c 45 rfl rfl rfl (OpJ.callP (mixB) rfl rfl rfl rfl rf17) ?_
  refine AList.c 42 rfl rfl rfl (OpJ.move rfl rfl) ?_
  refine AList.c 46 rfl rfl rfl (OpJ.extract rfl rfl rfl) ?_
  refine AList.c 47 rfl rfl rfl (OpJ.extract rfl rfl rfl) ?_
  refine AList.c 11 rfl rfl rfl (OpJ.allocOwn rfl zr25 rfl) ?_
  refine AList.c0 rfl rfl (OpJ.store rfl rfl rfl rfl rfl ty25 rfl rfl) ?_
  refine AList.c 12 rfl rfl rfl (OpJ.assign rfl rfl) ?_
  refine AList.nil ?_
  refine AWp.seq ?_
  refine AWp.regionDraw 44 mixed (by kernel_rfl) (by decide) ?_
  refine AQuiet.cons 48 rfl rfl rfl (OpJ.load rfl rfl ty29 rfl) ?_
  refine AQuiet.cons 49 rfl rfl rfl (OpJ.callP (lspan_ok _ _) rfl rfl rfl rfl rf24) ?_
  refine AQuiet.cons 50 rfl rfl rfl (OpJ.callP (lspan_ok _ _) rfl rfl rfl rfl rf24) ?_
  refine AQuiet.cons 51 rfl rfl rfl (OpJ.callP (lspan_ok _ _) rfl rfl rfl rfl rf24) ?_
  refine AQuiet.cons 52 rfl rfl rfl (OpJ.callP (lspan_ok _ _) rfl rfl rfl rfl rf24) ?_
  refine AQuiet.cons 53 rfl rfl rfl (OpJ.callP (lspan_ok _ _) rfl rfl rfl rfl rf24) ?_
  refine AQuiet.cons 54 rfl rfl rfl (OpJ.build rfl bd29 rfl rfl) ?_
  refine AQuiet.cons 55 rfl rfl rfl (OpJ.eqAgg (d := 8) rfl (.inl rfl) rfl rfl (by decide) eq29 ty29 rfl eg29 rfl) ?_
  refine AQuiet.cons 56 rfl rfl rfl (OpJ.move rfl rfl) ?_
  refine AQuiet.guard 57 56 rfl rfl rfl rfl rfl rfl rfl [(4, _)] (fun h => And.intro (.inl rfl) (trivial)) (fun h => (OpJ.move rfl rfl)) ?_
  refine AQuiet.guard 58 56 rfl rfl rfl rfl rfl rfl rfl [(57, _)] (fun h => And.intro (.inr ⟨_, rfl, h⟩) (trivial)) (fun h => (OpJ.eql rfl rfl rfl)) ?_
  refine AQuiet.cons 59 rfl rfl rfl (OpJ.and_ rfl rfl rfl ?_) ?_
  · first | (intro h; rw [h]; rfl) | (intro h; simp_all)
  refine AQuiet.cons 60 rfl rfl rfl (OpJ.move rfl rfl) ?_
  refine AQuiet.guard 61 60 rfl rfl rfl rfl rfl rfl rfl [(5, _)] (fun h => And.intro (.inl rfl) (trivial)) (fun h => (OpJ.load rfl rfl ty25 rfl)) ?_
  refine AQuiet.guard 62 60 rfl rfl rfl rfl rfl rfl rfl [] (fun h => trivial) (fun h => (OpJ.callP (lspan_ok _ _) rfl rfl rfl rfl rf24)) ?_
  refine AQuiet.guard 63 60 rfl rfl rfl rfl rfl rfl rfl [(61, _), (62, _)] (fun h => And.intro (.inr ⟨_, rfl, h⟩) (And.intro (.inr ⟨_, rfl, h⟩) (trivial))) (fun h => (OpJ.eqAgg (d := 8) rfl (.inl rfl) rfl rfl (by decide) eq25 ty25 rfl eg25 rfl)) ?_
  refine AQuiet.cons 64 rfl rfl rfl (OpJ.and_ rfl rfl rfl ?_) ?_
  · first | (intro h; rw [h]; rfl) | (intro h; simp_all)
  refine AQuiet.cons 65 rfl rfl rfl (OpJ.move rfl rfl) ?_
  refine AQuiet.guard 66 65 rfl rfl rfl rfl rfl rfl rfl [(6, _)] (fun h => And.intro (.inl rfl) (trivial)) (fun h => (OpJ.move rfl rfl)) ?_
  refine AQuiet.guard 67 65 rfl rfl rfl rfl rfl rfl rfl [(66, _)] (fun h => And.intro (.inr ⟨_, rfl, h⟩) (trivial)) (fun h => (OpJ.eql rfl rfl rfl)) ?_
  refine AQuiet.cons 68 rfl rfl rfl (OpJ.and_ rfl rfl rfl ?_) ?_
  · first | (intro h; rw [h]; rfl) | (intro h; simp_all)
  refine AQuiet.cons 69 rfl rfl rfl (OpJ.move rfl rfl) ?_
  refine AQuiet.guard 70 69 rfl rfl rfl rfl rfl rfl rfl [(7, _)] (fun h => And.intro (.inl rfl) (trivial)) (fun h => (OpJ.load rfl rfl ty25 rfl)) ?_
  refine AQuiet.guard 71 69 rfl rfl rfl rfl rfl rfl rfl [] (fun h => trivial) (fun h => (OpJ.callP (lspan_ok _ _) rfl rfl rfl rfl rf24)) ?_
  refine AQuiet.guard 72 69 rfl rfl rfl rfl rfl rfl rfl [(70, _), (71, _)] (fun h => And.intro (.inr ⟨_, rfl, h⟩) (And.intro (.inr ⟨_, rfl, h⟩) (trivial))) (fun h => (OpJ.eqAgg (d := 8) rfl (.inl rfl) rfl rfl (by decide) eq25 ty25 rfl eg25 rfl)) ?_
  refine AQuiet.cons 73 rfl rfl rfl (OpJ.and_ rfl rfl rfl ?_) ?_
  · first | (intro h; rw [h]; rfl) | (intro h; simp_all)
  refine AQuiet.cons 74 rfl rfl rfl (OpJ.move rfl rfl) ?_
  refine AQuiet.guard 75 74 rfl rfl rfl rfl rfl rfl rfl [(8, _)] (fun h => And.intro (.inl rfl) (trivial)) (fun h => (OpJ.move rfl rfl)) ?_
  refine AQuiet.guard 76 74 rfl rfl rfl rfl rfl rfl rfl [(75, _)] (fun h => And.intro (.inr ⟨_, rfl, h⟩) (trivial)) (fun h => (OpJ.eql rfl rfl rfl)) ?_
  refine AQuiet.cons 77 rfl rfl rfl (OpJ.and_ rfl rfl rfl ?_) ?_
  · first | (intro h; rw [h]; rfl) | (intro h; simp_all)
  refine AQuiet.cons 78 rfl rfl rfl (OpJ.move rfl rfl) ?_
  refine AQuiet.guard 79 78 rfl rfl rfl rfl rfl rfl rfl [(9, _)] (fun h => And.intro (.inl rfl) (trivial)) (fun h => (OpJ.load rfl rfl ty25 rfl)) ?_
  refine AQuiet.guard 80 78 rfl rfl rfl rfl rfl rfl rfl [] (fun h => trivial) (fun h => (OpJ.callP (lspan_ok _ _) rfl rfl rfl rfl rf24)) ?_
  refine AQuiet.guard 81 78 rfl rfl rfl rfl rfl rfl rfl [(79, _), (80, _)] (fun h => And.intro (.inr ⟨_, rfl, h⟩) (And.intro (.inr ⟨_, rfl, h⟩) (trivial))) (fun h => (OpJ.eqAgg (d := 8) rfl (.inl rfl) rfl rfl (by decide) eq25 ty25 rfl eg25 rfl)) ?_
  refine AQuiet.cons 82 rfl rfl rfl (OpJ.and_ rfl rfl rfl ?_) ?_
  · first | (intro h; rw [h]; rfl) | (intro h; simp_all)
  refine AQuiet.cons 83 rfl rfl rfl (OpJ.move rfl rfl) ?_
  refine AQuiet.guard 84 83 rfl rfl rfl rfl rfl rfl rfl [(10, _)] (fun h => And.intro (.inl rfl) (trivial)) (fun h => (OpJ.move rfl rfl)) ?_
  refine AQuiet.guard 85 83 rfl rfl rfl rfl rfl rfl rfl [(84, _)] (fun h => And.intro (.inr ⟨_, rfl, h⟩) (trivial)) (fun h => (OpJ.eql rfl rfl rfl)) ?_
  refine AQuiet.cons 86 rfl rfl rfl (OpJ.and_ rfl rfl rfl ?_) ?_
  · first | (intro h; rw [h]; rfl) | (intro h; simp_all)
  refine AQuiet.cons 87 rfl rfl rfl (OpJ.move rfl rfl) ?_
  refine AQuiet.guard 88 87 rfl rfl rfl rfl rfl rfl rfl [(12, _)] (fun h => And.intro (.inl rfl) (trivial)) (fun h => (OpJ.move rfl rfl)) ?_
  refine AQuiet.guard 89 87 rfl rfl rfl rfl rfl rfl rfl [(88, _)] (fun h => And.intro (.inr ⟨_, rfl, h⟩) (trivial)) (fun h => (OpJ.eql rfl rfl rfl)) ?_
  refine AQuiet.cons 90 rfl rfl rfl (OpJ.and_ rfl rfl rfl ?_) ?_
  · first | (intro h; rw [h]; rfl) | (intro h; simp_all)
  refine AQuiet.cons 0 rfl rfl rfl (OpJ.assign rfl rfl) ?_
  refine AQuiet.nil ?_
  refine AList.nil ?_
  refine AWp.ret ?_
  refine Fin.oneE rfl rfl ?_
  rfl
theorem SackWeighs_ok (l : List Sk) (b : List Tk) (w : Sp) : Pure Try.prog 3 [sacksV l, takesV b, .agg [.int .i64 w.lo, .int .i64 w.hi]] (.bool true) := by
  refine Pure.start (N := 92) Try.func3 rfl rfl (Nat.le_of_ble_eq_true rfl) ?_
  refine AWp.seq ?_
  refine AWp.region ?_
  refine AList.c 5 rfl rfl rfl (OpJ.boxImm rfl rfl rfl) ?_
  refine AList.c 6 rfl rfl rfl (OpJ.assign rfl rfl) ?_
  refine AList.nil ?_
  refine AWp.seq ?_
  refine AWp.seq ?_
  refine AWp.region ?_
  refine AList.c 19 rfl rfl rfl (OpJ.move rfl rfl) ?_
  refine AList.c 20 rfl rfl rfl (OpJ.move rfl rfl) ?_
  refine AList.c 21 rfl rfl rfl (OpJ.callP (large_ok l b) rfl rfl rfl rfl rf9) ?_
  refine AList.nil ?_
  refine AWp.cond _ rfl (fun hc0 => ?_) (fun hc0 => ?_)
  · skip
    refine AWp.seq ?_
    refine AWp.region ?_
    refine AList.c 22 rfl rfl rfl (OpJ.callP (awake_ok) rfl rfl rfl rfl rf10) ?_
    refine AList.c 6 rfl rfl rfl (OpJ.assign rfl rfl) ?_
    refine AList.nil ?_
    refine AWp.ret ?_
    refine Fin.oneE rfl rfl ?_
    rfl
  · skip
    have hl : l.length ≤ bigN := by unfold bigN; simp at hc0; omega
    have hb : b.length ≤ bigN := by unfold bigN; simp at hc0; omega
    refine AWp.skip ?_
    refine AWp.seq ?_
    refine AWp.region ?_
    refine AList.c 24 rfl rfl rfl (OpJ.move rfl rfl) ?_
    refine AList.c 25 rfl rfl rfl (OpJ.move rfl rfl) ?_
    refine AList.c 26 rfl rfl rfl (OpJ.callP (weigh_n l b hl hb) rfl rfl rfl rfl rf11) ?_
    refine AList.c 23 rfl rfl rfl (OpJ.move rfl rfl) ?_
    refine AList.c 27 rfl rfl rfl (OpJ.extract rfl rfl rfl) ?_
    refine AList.c 28 rfl rfl rfl (OpJ.extract rfl rfl rfl) ?_
    refine AList.c 7 rfl rfl rfl (OpJ.allocOwn rfl zr29 rfl) ?_
    refine AList.c0 rfl rfl (OpJ.store rfl rfl rfl rfl rfl ty29 rfl rfl) ?_
    refine AList.c 8 rfl rfl rfl (OpJ.assign rfl rfl) ?_
    refine AList.nil ?_
    refine AWp.seq ?_
    refine AWp.region ?_
    refine AList.c 30 rfl rfl rfl (OpJ.move rfl rfl) ?_
    refine AList.c 31 rfl rfl rfl (OpJ.move rfl rfl) ?_
    refine AList.c 32 rfl rfl rfl (OpJ.callP (rWeigh_n l b hl hb) rfl rfl rfl rfl rf12) ?_
    refine AList.c 29 rfl rfl rfl (OpJ.move rfl rfl) ?_
    refine AList.c 33 rfl rfl rfl (OpJ.extract rfl rfl rfl) ?_
    refine AList.c 34 rfl rfl rfl (OpJ.extract rfl rfl rfl) ?_
    refine AList.c 9 rfl rfl rfl (OpJ.allocOwn rfl zr29 rfl) ?_
    refine AList.c0 rfl rfl (OpJ.store rfl rfl rfl rfl rfl ty29 rfl rfl) ?_
    refine AList.c 10 rfl rfl rfl (OpJ.assign rfl rfl) ?_
    refine AList.nil ?_
    refine AWp.seq ?_
    refine AWp.region ?_
    refine AList.c 36 rfl rfl rfl (OpJ.move rfl rfl) ?_
    refine AList.c 37 rfl rfl rfl (OpJ.move rfl rfl) ?_
    refine AList.c 38 rfl rfl rfl (OpJ.callP (share_n l b hl hb) rfl rfl rfl rfl rf13) ?_
    refine AList.c 35 rfl rfl rfl (OpJ.move rfl rfl) ?_
    refine AList.c 39 rfl rfl rfl (OpJ.extract rfl rfl rfl) ?_
    refine AList.c 40 rfl rfl rfl (OpJ.extract rfl rfl rfl) ?_
    refine AList.c 11 rfl rfl rfl (OpJ.allocOwn rfl zr25 rfl) ?_
    refine AList.c0 rfl rfl (OpJ.store rfl rfl rfl rfl rfl ty25 rfl rfl) ?_
    refine AList.c 12 rfl rfl rfl (OpJ.assign rfl rfl) ?_
    refine AList.nil ?_
    refine AWp.seq ?_
    refine AWp.region ?_
    refine AList.c 42 rfl rfl rfl (OpJ.move rfl rfl) ?_
    refine AList.c 43 rfl rfl rfl (OpJ.move rfl rfl) ?_
    refine AList.c 44 rfl rfl rfl (OpJ.callP (rShare_n l b hl hb) rfl rfl rfl rfl rf14) ?_
    refine AList.c 41 rfl rfl rfl (OpJ.move rfl rfl) ?_
    refine AList.c 45 rfl rfl rfl (OpJ.extract rfl rfl rfl) ?_
    refine AList.c 46 rfl rfl rfl (OpJ.extract rfl rfl rfl) ?_
    refine AList.c 13 rfl rfl rfl (OpJ.allocOwn rfl zr25 rfl) ?_
    refine AList.c0 rfl rfl (OpJ.store rfl rfl rfl rfl rfl ty25 rfl rfl) ?_
    refine AList.c 14 rfl rfl rfl (OpJ.assign rfl rfl) ?_
    refine AList.nil ?_
    refine AWp.seq ?_
    refine AWp.region ?_
    refine AList.c 48 rfl rfl rfl (OpJ.move rfl rfl) ?_
    refine AList.c 49 rfl rfl rfl (OpJ.move rfl rfl) ?_
    refine AList.c 50 rfl rfl rfl (OpJ.load rfl rfl ty25 rfl) ?_
    refine AList.c 51 rfl rfl rfl (OpJ.callP (water_n l b w hl hb) rfl rfl rfl rfl rf15) ?_
    refine AList.c 47 rfl rfl rfl (OpJ.move rfl rfl) ?_
    refine AList.c 52 rfl rfl rfl (OpJ.extract rfl rfl rfl) ?_
    refine AList.c 53 rfl rfl rfl (OpJ.extract rfl rfl rfl) ?_
    refine AList.c 15 rfl rfl rfl (OpJ.allocOwn rfl zr25 rfl) ?_
    refine AList.c0 rfl rfl (OpJ.store rfl rfl rfl rfl rfl ty25 rfl rfl) ?_
    refine AList.c 16 rfl rfl rfl (OpJ.assign rfl rfl) ?_
    refine AList.nil ?_
    refine AWp.seq ?_
    refine AWp.region ?_
    refine AList.c 55 rfl rfl rfl (OpJ.move rfl rfl) ?_
    refine AList.c 56 rfl rfl rfl (OpJ.move rfl rfl) ?_
    refine AList.c 57 rfl rfl rfl (OpJ.load rfl rfl ty25 rfl) ?_
    refine AList.c 58 rfl rfl rfl (OpJ.callP (rWater_n l b w hl hb) rfl rfl rfl rfl rf16) ?_
    refine AList.c 54 rfl rfl rfl (OpJ.move rfl rfl) ?_
    refine AList.c 59 rfl rfl rfl (OpJ.extract rfl rfl rfl) ?_
    refine AList.c 60 rfl rfl rfl (OpJ.extract rfl rfl rfl) ?_
    refine AList.c 17 rfl rfl rfl (OpJ.allocOwn rfl zr25 rfl) ?_
    refine AList.c0 rfl rfl (OpJ.store rfl rfl rfl rfl rfl ty25 rfl rfl) ?_
    refine AList.c 18 rfl rfl rfl (OpJ.assign rfl rfl) ?_
    refine AList.nil ?_
    refine AWp.seq ?_
    refine AWp.region ?_
    refine AList.c 61 rfl rfl rfl (OpJ.load rfl rfl ty29 rfl) ?_
    refine AList.c 62 rfl rfl rfl (OpJ.load rfl rfl ty29 rfl) ?_
    refine AList.c 63 rfl rfl rfl (OpJ.eqAgg (d := 8) rfl (.inl rfl) rfl rfl (by decide) eq29 ty29 rfl eg29 rfl) ?_
    refine AList.c 64 rfl rfl rfl (OpJ.move rfl rfl) ?_
    refine AList.g 65 64 rfl rfl rfl rfl rfl rfl rfl [(8, _)] (fun h => And.intro (.inl rfl) (trivial)) (fun h => (OpJ.move rfl rfl)) ?_
    refine AList.g 66 64 rfl rfl rfl rfl rfl rfl rfl [(10, _)] (fun h => And.intro (.inl rfl) (trivial)) (fun h => (OpJ.move rfl rfl)) ?_
    refine AList.g 67 64 rfl rfl rfl rfl rfl rfl rfl [(65, _), (66, _)] (fun h => And.intro (.inr ⟨_, rfl, h⟩) (And.intro (.inr ⟨_, rfl, h⟩) (trivial))) (fun h => (OpJ.eql rfl rfl rfl)) ?_
    refine AList.c 68 rfl rfl rfl (OpJ.and_ rfl rfl rfl ?_) ?_
    · first | (intro h; rw [h]; rfl) | (intro h; simp_all)
    refine AList.c 69 rfl rfl rfl (OpJ.move rfl rfl) ?_
    refine AList.g 70 69 rfl rfl rfl rfl rfl rfl rfl [(11, _)] (fun h => And.intro (.inl rfl) (trivial)) (fun h => (OpJ.load rfl rfl ty25 rfl)) ?_
    refine AList.g 71 69 rfl rfl rfl rfl rfl rfl rfl [(13, _)] (fun h => And.intro (.inl rfl) (trivial)) (fun h => (OpJ.load rfl rfl ty25 rfl)) ?_
    refine AList.g 72 69 rfl rfl rfl rfl rfl rfl rfl [(70, _), (71, _)] (fun h => And.intro (.inr ⟨_, rfl, h⟩) (And.intro (.inr ⟨_, rfl, h⟩) (trivial))) (fun h => (OpJ.eqAgg (d := 8) rfl (.inl rfl) rfl rfl (by decide) eq25 ty25 rfl eg25 rfl)) ?_
    refine AList.c 73 rfl rfl rfl (OpJ.and_ rfl rfl rfl ?_) ?_
    · first | (intro h; rw [h]; rfl) | (intro h; simp_all)
    refine AList.c 74 rfl rfl rfl (OpJ.move rfl rfl) ?_
    refine AList.g 75 74 rfl rfl rfl rfl rfl rfl rfl [(12, _)] (fun h => And.intro (.inl rfl) (trivial)) (fun h => (OpJ.move rfl rfl)) ?_
    refine AList.g 76 74 rfl rfl rfl rfl rfl rfl rfl [(14, _)] (fun h => And.intro (.inl rfl) (trivial)) (fun h => (OpJ.move rfl rfl)) ?_
    refine AList.g 77 74 rfl rfl rfl rfl rfl rfl rfl [(75, _), (76, _)] (fun h => And.intro (.inr ⟨_, rfl, h⟩) (And.intro (.inr ⟨_, rfl, h⟩) (trivial))) (fun h => (OpJ.eql rfl rfl rfl)) ?_
    refine AList.c 78 rfl rfl rfl (OpJ.and_ rfl rfl rfl ?_) ?_
    · first | (intro h; rw [h]; rfl) | (intro h; simp_all)
    refine AList.c 79 rfl rfl rfl (OpJ.move rfl rfl) ?_
    refine AList.g 80 79 rfl rfl rfl rfl rfl rfl rfl [(15, _)] (fun h => And.intro (.inl rfl) (trivial)) (fun h => (OpJ.load rfl rfl ty25 rfl)) ?_
    refine AList.g 81 79 rfl rfl rfl rfl rfl rfl rfl [(17, _)] (fun h => And.intro (.inl rfl) (trivial)) (fun h => (OpJ.load rfl rfl ty25 rfl)) ?_
    refine AList.g 82 79 rfl rfl rfl rfl rfl rfl rfl [(80, _), (81, _)] (fun h => And.intro (.inr ⟨_, rfl, h⟩) (And.intro (.inr ⟨_, rfl, h⟩) (trivial))) (fun h => (OpJ.eqAgg (d := 8) rfl (.inl rfl) rfl rfl (by decide) eq25 ty25 rfl eg25 rfl)) ?_
    refine AList.c 83 rfl rfl rfl (OpJ.and_ rfl rfl rfl ?_) ?_
    · first | (intro h; rw [h]; rfl) | (intro h; simp_all)
    refine AList.c 84 rfl rfl rfl (OpJ.move rfl rfl) ?_
    refine AList.g 85 84 rfl rfl rfl rfl rfl rfl rfl [(16, _)] (fun h => And.intro (.inl rfl) (trivial)) (fun h => (OpJ.move rfl rfl)) ?_
    refine AList.g 86 84 rfl rfl rfl rfl rfl rfl rfl [(18, _)] (fun h => And.intro (.inl rfl) (trivial)) (fun h => (OpJ.move rfl rfl)) ?_
    refine AList.g 87 84 rfl rfl rfl rfl rfl rfl rfl [(85, _), (86, _)] (fun h => And.intro (.inr ⟨_, rfl, h⟩) (And.intro (.inr ⟨_, rfl, h⟩) (trivial))) (fun h => (OpJ.eql rfl rfl rfl)) ?_
    refine AList.c 88 rfl rfl rfl (OpJ.and_ rfl rfl rfl ?_) ?_
    · first | (intro h; rw [h]; rfl) | (intro h; simp_all)
    refine AList.c 89 rfl rfl rfl (OpJ.move rfl rfl) ?_
    refine AList.g 90 89 rfl rfl rfl rfl rfl rfl rfl [] (fun h => trivial) (fun h => (OpJ.callP (awake_ok) rfl rfl rfl rfl rf10)) ?_
    refine AList.c 91 rfl rfl rfl (OpJ.and_ rfl rfl rfl ?_) ?_
    · first | (intro h; rw [h]; rfl) | (intro h; simp_all)
    refine AList.c 6 rfl rfl rfl (OpJ.assign rfl rfl) ?_
    refine AList.nil ?_
    refine AWp.ret ?_
    refine Fin.oneE rfl rfl ?_
    simp
theorem SackMixes_ok (l : List Sk) (i j t : Int) (w : Sp) : Pure Try.prog 4 [sacksV l, .int .i64 i, .int .i64 j, .int .i64 t, .agg [.int .i64 w.lo, .int .i64 w.hi]] (.bool true) := by
  refine Pure.start (N := 55) Try.func4 rfl rfl (Nat.le_of_ble_eq_true rfl) ?_
  refine AWp.seq ?_
  refine AWp.region ?_
  refine AList.c 9 rfl rfl rfl (OpJ.boxImm rfl rfl rfl) ?_
  refine AList.c 10 rfl rfl rfl (OpJ.assign rfl rfl) ?_
  refine AList.nil ?_
  refine AWp.seq ?_
  refine AWp.seq ?_
  refine AWp.region ?_
  refine AList.c 15 rfl rfl rfl (OpJ.move rfl rfl) ?_
  refine AList.c 16 rfl rfl rfl (OpJ.callP (large0_ok l) rfl rfl rfl rfl rf9) ?_
  refine AList.c 17 rfl rfl rfl (OpJ.move rfl rfl) ?_
  refine AList.g 18 17 rfl rfl rfl rfl rfl rfl rfl [(3, _)] (fun h => And.intro (.inl rfl) (trivial)) (fun h => (OpJ.move rfl rfl)) ?_
  refine AList.g 19 17 rfl rfl rfl rfl rfl rfl rfl [(18, _)] (fun h => And.intro (.inr ⟨_, rfl, h⟩) (trivial)) (fun h => (OpJ.gtr rfl rfl rfl)) ?_
  refine AList.g 20 17 rfl rfl rfl rfl rfl rfl rfl [(19, _)] (fun h => And.intro (.inr ⟨_, rfl, h⟩) (trivial)) (fun h => (OpJ.move rfl rfl)) ?_
  refine AList.g 21 20 rfl rfl rfl rfl rfl rfl rfl [(3, _)] (fun h => And.intro (.inl rfl) (trivial)) (fun h => (OpJ.move rfl rfl)) ?_
  refine AList.g 22 20 rfl rfl rfl rfl rfl rfl rfl [(21, _)] (fun h => And.intro (.inr ⟨_, rfl, h⟩) (trivial)) (fun h => (OpJ.leq rfl rfl rfl)) ?_
  refine AList.g 23 17 rfl rfl rfl rfl rfl rfl rfl [(20, _), (22, _)] (fun h => And.intro (.inr ⟨_, rfl, h⟩) (And.intro (.inl rfl) (trivial))) (fun h => (OpJ.and_ rfl rfl rfl ?_)) ?_
  · first | (intro h; rw [h]; rfl) | (intro h; simp_all)
  refine AList.c 24 rfl rfl rfl (OpJ.or_ rfl rfl rfl ?_) ?_
  · first | (intro h; rw [h]; rfl) | (intro h; simp_all)
  refine AList.nil ?_
  refine AWp.cond _ rfl (fun hc0 => ?_) (fun hc0 => ?_)
  · skip
    refine AWp.seq ?_
    refine AWp.region ?_
    refine AList.c 25 rfl rfl rfl (OpJ.callP (awake_ok) rfl rfl rfl rfl rf10) ?_
    refine AList.c 10 rfl rfl rfl (OpJ.assign rfl rfl) ?_
    refine AList.nil ?_
    refine AWp.ret ?_
    refine Fin.oneE rfl rfl ?_
    rfl
  · skip
    have hl : l.length ≤ bigN := by unfold bigN; simp at hc0; omega
    refine AWp.skip ?_
    refine AWp.seq ?_
    refine AWp.region ?_
    refine AList.c 27 rfl rfl rfl (OpJ.move rfl rfl) ?_
    refine AList.c 28 rfl rfl rfl (OpJ.move rfl rfl) ?_
    refine AList.c 29 rfl rfl rfl (OpJ.move rfl rfl) ?_
    refine AList.c 30 rfl rfl rfl (OpJ.move rfl rfl) ?_
    refine AList.c 31 rfl rfl rfl (OpJ.load rfl rfl ty25 rfl) ?_
    refine AList.c 32 rfl rfl rfl (OpJ.callP (mix_n l i j t w hl) rfl rfl rfl rfl rf17) ?_
    refine AList.c 26 rfl rfl rfl (OpJ.move rfl rfl) ?_
    refine AList.c 33 rfl rfl rfl (OpJ.extract rfl rfl rfl) ?_
    refine AList.c 34 rfl rfl rfl (OpJ.extract rfl rfl rfl) ?_
    refine AList.c 11 rfl rfl rfl (OpJ.allocOwn rfl zr25 rfl) ?_
    refine AList.c0 rfl rfl (OpJ.store rfl rfl rfl rfl rfl ty25 rfl rfl) ?_
    refine AList.c 12 rfl rfl rfl (OpJ.assign rfl rfl) ?_
    refine AList.nil ?_
    refine AWp.seq ?_
    refine AWp.region ?_
    refine AList.c 36 rfl rfl rfl (OpJ.move rfl rfl) ?_
    refine AList.c 37 rfl rfl rfl (OpJ.move rfl rfl) ?_
    refine AList.c 38 rfl rfl rfl (OpJ.move rfl rfl) ?_
    refine AList.c 39 rfl rfl rfl (OpJ.move rfl rfl) ?_
    refine AList.c 40 rfl rfl rfl (OpJ.load rfl rfl ty25 rfl) ?_
    refine AList.c 41 rfl rfl rfl (OpJ.callP (rMix_n l i j t w hl) rfl rfl rfl rfl rf18) ?_
    refine AList.c 35 rfl rfl rfl (OpJ.move rfl rfl) ?_
    refine AList.c 42 rfl rfl rfl (OpJ.extract rfl rfl rfl) ?_
    refine AList.c 43 rfl rfl rfl (OpJ.extract rfl rfl rfl) ?_
    refine AList.c 13 rfl rfl rfl (OpJ.allocOwn rfl zr25 rfl) ?_
    refine AList.c0 rfl rfl (OpJ.store rfl rfl rfl rfl rfl ty25 rfl rfl) ?_
    refine AList.c 14 rfl rfl rfl (OpJ.assign rfl rfl) ?_
    refine AList.nil ?_
    refine AWp.seq ?_
    refine AWp.region ?_
    refine AList.c 44 rfl rfl rfl (OpJ.load rfl rfl ty25 rfl) ?_
    refine AList.c 45 rfl rfl rfl (OpJ.load rfl rfl ty25 rfl) ?_
    refine AList.c 46 rfl rfl rfl (OpJ.eqAgg (d := 8) rfl (.inl rfl) rfl rfl (by decide) eq25 ty25 rfl eg25 rfl) ?_
    refine AList.c 47 rfl rfl rfl (OpJ.move rfl rfl) ?_
    refine AList.g 48 47 rfl rfl rfl rfl rfl rfl rfl [(12, _)] (fun h => And.intro (.inl rfl) (trivial)) (fun h => (OpJ.move rfl rfl)) ?_
    refine AList.g 49 47 rfl rfl rfl rfl rfl rfl rfl [(14, _)] (fun h => And.intro (.inl rfl) (trivial)) (fun h => (OpJ.move rfl rfl)) ?_
    refine AList.g 50 47 rfl rfl rfl rfl rfl rfl rfl [(48, _), (49, _)] (fun h => And.intro (.inr ⟨_, rfl, h⟩) (And.intro (.inr ⟨_, rfl, h⟩) (trivial))) (fun h => (OpJ.eql rfl rfl rfl)) ?_
    refine AList.c 51 rfl rfl rfl (OpJ.and_ rfl rfl rfl ?_) ?_
    · first | (intro h; rw [h]; rfl) | (intro h; simp_all)
    refine AList.c 52 rfl rfl rfl (OpJ.move rfl rfl) ?_
    refine AList.g 53 52 rfl rfl rfl rfl rfl rfl rfl [] (fun h => trivial) (fun h => (OpJ.callP (awake_ok) rfl rfl rfl rfl rf10)) ?_
    refine AList.c 54 rfl rfl rfl (OpJ.and_ rfl rfl rfl ?_) ?_
    · first | (intro h; rw [h]; rfl) | (intro h; simp_all)
    refine AList.c 10 rfl rfl rfl (OpJ.assign rfl rfl) ?_
    refine AList.nil ?_
    refine AWp.ret ?_
    refine Fin.oneE rfl rfl ?_
    simp
theorem sackWeighs_law {x0 x1 x2 : List PV} (h0 : TyL [.sl [.leaf (.int .i64), .leaf (.int .i64), .leaf (.int .i64), .leaf (.int .i64), .leaf (.int .i64), .leaf (.int .i64)]] x0) (h1 : TyL [.sl [.leaf (.int .i64), .leaf (.int .i64), .leaf (.int .i64)]] x1) (h2 : TyL [.leaf (.int .i64), .leaf (.int .i64)] x2) : Pure Try.prog 3 [argP false x0, argP false x1, argP true x2] (.bool true) := by
  obtain ⟨l, rfl, hl⟩ := sl_of (fun _ => sk_of) h0
  obtain ⟨b, rfl, hb⟩ := sl_of (fun _ => tk_of) h1
  obtain ⟨w, rfl⟩ := two_of h2
  exact SackWeighs_ok l b w
theorem sackMixes_law {x0 x1 x2 x3 x4 : List PV} (h0 : TyL [.sl [.leaf (.int .i64), .leaf (.int .i64), .leaf (.int .i64), .leaf (.int .i64), .leaf (.int .i64), .leaf (.int .i64)]] x0) (h1 : TyL [.leaf (.int .i64)] x1) (h2 : TyL [.leaf (.int .i64)] x2) (h3 : TyL [.leaf (.int .i64)] x3) (h4 : TyL [.leaf (.int .i64), .leaf (.int .i64)] x4) : Pure Try.prog 4 [argP false x0, argP false x1, argP false x2, argP false x3, argP true x4] (.bool true) := by
  obtain ⟨l, rfl, hl⟩ := sl_of (fun _ => sk_of) h0
  obtain ⟨i, rfl⟩ := int_of h1
  obtain ⟨j, rfl⟩ := int_of h2
  obtain ⟨t, rfl⟩ := int_of h3
  obtain ⟨w, rfl⟩ := two_of h4
  exact SackMixes_ok l i j t w
end Go.Proofs.Ytmcejcidbekpkaa
