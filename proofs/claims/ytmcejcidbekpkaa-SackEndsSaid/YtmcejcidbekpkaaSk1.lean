/-
  Small functions of the sack.
-/
import Derived.Test.YtmcejcidbekpkaaSkFacts
import Derived.Test.YtmcejcidbekpkaaSk0
set_option linter.unusedVariables false
set_option maxRecDepth 100000
set_option maxHeartbeats 4000000
set_option linter.unusedSimpArgs false
namespace Go.Proofs.Ytmcejcidbekpkaa
open Go.AF
theorem within_ok (n lo hi : Int) : Pure Try.prog 54 [.int .i64 n, .int .i64 lo, .int .i64 hi] (.bool (decide (lo ≤ n) && decide (n ≤ hi))) := by
  refine Pure.start (N := 15) Try.func54 rfl rfl (Nat.le_of_ble_eq_true rfl) ?_
  refine AWp.seq ?_
  refine AWp.region ?_
  refine AList.c 6 rfl rfl rfl (OpJ.assign rfl rfl) ?_
  refine AList.nil ?_
  refine AWp.seq ?_
  refine AWp.region ?_
  refine AList.c 7 rfl rfl rfl (OpJ.move rfl rfl) ?_
  refine AList.c 8 rfl rfl rfl (OpJ.move rfl rfl) ?_
  refine AList.c 9 rfl rfl rfl (OpJ.leq rfl rfl rfl) ?_
  refine AList.c 10 rfl rfl rfl (OpJ.move rfl rfl) ?_
  refine AList.g 11 10 rfl rfl rfl rfl rfl rfl rfl [(0, _)] (fun h => And.intro (.inl rfl) (trivial)) (fun h => (OpJ.move rfl rfl)) ?_
  refine AList.g 12 10 rfl rfl rfl rfl rfl rfl rfl [(2, _)] (fun h => And.intro (.inl rfl) (trivial)) (fun h => (OpJ.move rfl rfl)) ?_
  refine AList.g 13 10 rfl rfl rfl rfl rfl rfl rfl [(11, _), (12, _)] (fun h => And.intro (.inr ⟨_, rfl, h⟩) (And.intro (.inr ⟨_, rfl, h⟩) (trivial))) (fun h => (OpJ.leq rfl rfl rfl)) ?_
  refine AList.c 14 rfl rfl rfl (OpJ.and_ rfl rfl rfl ?_) ?_
  · first | (intro h; rw [h]; rfl) | (intro h; simp_all)
  refine AList.c 6 rfl rfl rfl (OpJ.assign rfl rfl) ?_
  refine AList.nil ?_
  refine AWp.ret ?_
  exact Fin.one rfl (rfl)
theorem in_ok (n lo hi : Int) : Pure Try.prog 59 [.int .i64 n, .int .i64 lo, .int .i64 hi] (.bool (decide (lo ≤ n) && decide (n ≤ hi))) := by
  refine Pure.start (N := 15) Try.func59 rfl rfl (Nat.le_of_ble_eq_true rfl) ?_
  refine AWp.seq ?_
  refine AWp.region ?_
  refine AList.c 6 rfl rfl rfl (OpJ.assign rfl rfl) ?_
  refine AList.nil ?_
  refine AWp.seq ?_
  refine AWp.region ?_
  refine AList.c 7 rfl rfl rfl (OpJ.move rfl rfl) ?_
  refine AList.c 8 rfl rfl rfl (OpJ.move rfl rfl) ?_
  refine AList.c 9 rfl rfl rfl (OpJ.leq rfl rfl rfl) ?_
  refine AList.c 10 rfl rfl rfl (OpJ.move rfl rfl) ?_
  refine AList.g 11 10 rfl rfl rfl rfl rfl rfl rfl [(0, _)] (fun h => And.intro (.inl rfl) (trivial)) (fun h => (OpJ.move rfl rfl)) ?_
  refine AList.g 12 10 rfl rfl rfl rfl rfl rfl rfl [(2, _)] (fun h => And.intro (.inl rfl) (trivial)) (fun h => (OpJ.move rfl rfl)) ?_
  refine AList.g 13 10 rfl rfl rfl rfl rfl rfl rfl [(11, _), (12, _)] (fun h => And.intro (.inr ⟨_, rfl, h⟩) (And.intro (.inr ⟨_, rfl, h⟩) (trivial))) (fun h => (OpJ.leq rfl rfl rfl)) ?_
  refine AList.c 14 rfl rfl rfl (OpJ.and_ rfl rfl rfl ?_) ?_
  · first | (intro h; rw [h]; rfl) | (intro h; simp_all)
  refine AList.c 6 rfl rfl rfl (OpJ.assign rfl rfl) ?_
  refine AList.nil ?_
  refine AWp.ret ?_
  exact Fin.one rfl (rfl)
theorem isSpan_ok (a b lo hi : Int) : Pure Try.prog 47 [.agg [.int .i64 a, .int .i64 b], .int .i64 lo, .int .i64 hi] (.bool (decide (lo ≤ a) && decide (a ≤ b) && decide (b ≤ hi))) := by
  refine Pure.start (N := 24) Try.func47 rfl rfl (Nat.le_of_ble_eq_true rfl) ?_
  refine AWp.seq ?_
  refine AWp.region ?_
  refine AList.c 3 rfl rfl rfl (OpJ.boxImm rfl rfl rfl) ?_
  refine AList.c 6 rfl rfl rfl (OpJ.assign rfl rfl) ?_
  refine AList.nil ?_
  refine AWp.seq ?_
  refine AWp.region ?_
  refine AList.c 7 rfl rfl rfl (OpJ.move rfl rfl) ?_
  refine AList.c 8 rfl rfl rfl (OpJ.fieldAddr rfl rfl fd25_0 rfl) ?_
  refine AList.c 9 rfl rfl rfl (OpJ.load rfl rfl ty3 rfl) ?_
  refine AList.c 10 rfl rfl rfl (OpJ.leq rfl rfl rfl) ?_
  refine AList.c 11 rfl rfl rfl (OpJ.move rfl rfl) ?_
  refine AList.g 12 11 rfl rfl rfl rfl rfl rfl rfl [(3, _)] (fun h => And.intro (.inl rfl) (trivial)) (fun h => (OpJ.fieldAddr rfl rfl fd25_0 rfl)) ?_
  refine AList.g 13 11 rfl rfl rfl rfl rfl rfl rfl [(12, _)] (fun h => And.intro (.inr ⟨_, rfl, h⟩) (trivial)) (fun h => (OpJ.load rfl rfl ty3 rfl)) ?_
  refine AList.g 14 11 rfl rfl rfl rfl rfl rfl rfl [(3, _)] (fun h => And.intro (.inl rfl) (trivial)) (fun h => (OpJ.fieldAddr rfl rfl fd25_1 rfl)) ?_
  refine AList.g 15 11 rfl rfl rfl rfl rfl rfl rfl [(14, _)] (fun h => And.intro (.inr ⟨_, rfl, h⟩) (trivial)) (fun h => (OpJ.load rfl rfl ty3 rfl)) ?_
  refine AList.g 16 11 rfl rfl rfl rfl rfl rfl rfl [(13, _), (15, _)] (fun h => And.intro (.inr ⟨_, rfl, h⟩) (And.intro (.inr ⟨_, rfl, h⟩) (trivial))) (fun h => (OpJ.leq rfl rfl rfl)) ?_
  refine AList.c 17 rfl rfl rfl (OpJ.and_ rfl rfl rfl ?_) ?_
  · first | (intro h; rw [h]; rfl) | (intro h; simp_all)
  refine AList.c 18 rfl rfl rfl (OpJ.move rfl rfl) ?_
  refine AList.g 19 18 rfl rfl rfl rfl rfl rfl rfl [(3, _)] (fun h => And.intro (.inl rfl) (trivial)) (fun h => (OpJ.fieldAddr rfl rfl fd25_1 rfl)) ?_
  refine AList.g 20 18 rfl rfl rfl rfl rfl rfl rfl [(19, _)] (fun h => And.intro (.inr ⟨_, rfl, h⟩) (trivial)) (fun h => (OpJ.load rfl rfl ty3 rfl)) ?_
  refine AList.g 21 18 rfl rfl rfl rfl rfl rfl rfl [(2, _)] (fun h => And.intro (.inl rfl) (trivial)) (fun h => (OpJ.move rfl rfl)) ?_
  refine AList.g 22 18 rfl rfl rfl rfl rfl rfl rfl [(20, _), (21, _)] (fun h => And.intro (.inr ⟨_, rfl, h⟩) (And.intro (.inr ⟨_, rfl, h⟩) (trivial))) (fun h => (OpJ.leq rfl rfl rfl)) ?_
  refine AList.c 23 rfl rfl rfl (OpJ.and_ rfl rfl rfl ?_) ?_
  · first | (intro h; rw [h]; rfl) | (intro h; simp_all)
  refine AList.c 6 rfl rfl rfl (OpJ.assign rfl rfl) ?_
  refine AList.nil ?_
  refine AWp.ret ?_
  exact Fin.one rfl (rfl)
theorem rspan_ok (a b lo hi : Int) : Pure Try.prog 49 [.agg [.int .i64 a, .int .i64 b], .int .i64 lo, .int .i64 hi] (.bool (decide (lo ≤ a) && decide (a ≤ b) && decide (b ≤ hi))) := by
  refine Pure.start (N := 24) Try.func49 rfl rfl (Nat.le_of_ble_eq_true rfl) ?_
  refine AWp.seq ?_
  refine AWp.region ?_
  refine AList.c 3 rfl rfl rfl (OpJ.boxImm rfl rfl rfl) ?_
  refine AList.c 6 rfl rfl rfl (OpJ.assign rfl rfl) ?_
  refine AList.nil ?_
  refine AWp.seq ?_
  refine AWp.region ?_
  refine AList.c 7 rfl rfl rfl (OpJ.move rfl rfl) ?_
  refine AList.c 8 rfl rfl rfl (OpJ.fieldAddr rfl rfl fd25_0 rfl) ?_
  refine AList.c 9 rfl rfl rfl (OpJ.load rfl rfl ty3 rfl) ?_
  refine AList.c 10 rfl rfl rfl (OpJ.leq rfl rfl rfl) ?_
  refine AList.c 11 rfl rfl rfl (OpJ.move rfl rfl) ?_
  refine AList.g 12 11 rfl rfl rfl rfl rfl rfl rfl [(3, _)] (fun h => And.intro (.inl rfl) (trivial)) (fun h => (OpJ.fieldAddr rfl rfl fd25_0 rfl)) ?_
  refine AList.g 13 11 rfl rfl rfl rfl rfl rfl rfl [(12, _)] (fun h => And.intro (.inr ⟨_, rfl, h⟩) (trivial)) (fun h => (OpJ.load rfl rfl ty3 rfl)) ?_
  refine AList.g 14 11 rfl rfl rfl rfl rfl rfl rfl [(3, _)] (fun h => And.intro (.inl rfl) (trivial)) (fun h => (OpJ.fieldAddr rfl rfl fd25_1 rfl)) ?_
  refine AList.g 15 11 rfl rfl rfl rfl rfl rfl rfl [(14, _)] (fun h => And.intro (.inr ⟨_, rfl, h⟩) (trivial)) (fun h => (OpJ.load rfl rfl ty3 rfl)) ?_
  refine AList.g 16 11 rfl rfl rfl rfl rfl rfl rfl [(13, _), (15, _)] (fun h => And.intro (.inr ⟨_, rfl, h⟩) (And.intro (.inr ⟨_, rfl, h⟩) (trivial))) (fun h => (OpJ.leq rfl rfl rfl)) ?_
  refine AList.c 17 rfl rfl rfl (OpJ.and_ rfl rfl rfl ?_) ?_
  · first | (intro h; rw [h]; rfl) | (intro h; simp_all)
  refine AList.c 18 rfl rfl rfl (OpJ.move rfl rfl) ?_
  refine AList.g 19 18 rfl rfl rfl rfl rfl rfl rfl [(3, _)] (fun h => And.intro (.inl rfl) (trivial)) (fun h => (OpJ.fieldAddr rfl rfl fd25_1 rfl)) ?_
  refine AList.g 20 18 rfl rfl rfl rfl rfl rfl rfl [(19, _)] (fun h => And.intro (.inr ⟨_, rfl, h⟩) (trivial)) (fun h => (OpJ.load rfl rfl ty3 rfl)) ?_
  refine AList.g 21 18 rfl rfl rfl rfl rfl rfl rfl [(2, _)] (fun h => And.intro (.inl rfl) (trivial)) (fun h => (OpJ.move rfl rfl)) ?_
  refine AList.g 22 18 rfl rfl rfl rfl rfl rfl rfl [(20, _), (21, _)] (fun h => And.intro (.inr ⟨_, rfl, h⟩) (And.intro (.inr ⟨_, rfl, h⟩) (trivial))) (fun h => (OpJ.leq rfl rfl rfl)) ?_
  refine AList.c 23 rfl rfl rfl (OpJ.and_ rfl rfl rfl ?_) ?_
  · first | (intro h; rw [h]; rfl) | (intro h; simp_all)
  refine AList.c 6 rfl rfl rfl (OpJ.assign rfl rfl) ?_
  refine AList.nil ?_
  refine AWp.ret ?_
  exact Fin.one rfl (rfl)
theorem lspan_ok (a b : Int) : Pure Try.prog 24 [.int .i64 a, .int .i64 b] (.agg [.int .i64 a, .int .i64 b]) := by
  refine Pure.start (N := 8) Try.func24 rfl rfl (Nat.le_of_ble_eq_true rfl) ?_
  refine AWp.seq ?_
  refine AWp.region ?_
  refine AList.c 4 rfl rfl rfl (OpJ.allocOwn rfl zr25 rfl) ?_
  refine AList.nil ?_
  refine AWp.seq ?_
  refine AWp.region ?_
  refine AList.c 5 rfl rfl rfl (OpJ.move rfl rfl) ?_
  refine AList.c 6 rfl rfl rfl (OpJ.move rfl rfl) ?_
  refine AList.c 7 rfl rfl rfl (OpJ.build rfl bd25 rfl rfl) ?_
  refine AList.c0 rfl rfl (OpJ.store rfl rfl rfl rfl rfl ty25 rfl rfl) ?_
  refine AList.nil ?_
  refine AWp.ret ?_
  exact Fin.one rfl (⟨_, _, _, rfl, ty25, rfl⟩)
theorem dry_ok (w c l : Int) (hs : okSt w c l) : Pure Try.prog 68 [.agg [.int .i64 w, .int .i64 c, .int .i64 l]] (.int .i64 (1000 - w)) := by
  obtain ⟨hw, hc, hl⟩ := id hs
  refine Pure.start (N := 6) Try.func68 rfl rfl (Nat.le_of_ble_eq_true rfl) ?_
  refine AWp.seq ?_
  refine AWp.region ?_
  refine AList.c 1 rfl rfl rfl (OpJ.boxImm rfl rfl rfl) ?_
  refine AList.c 2 rfl rfl rfl (OpJ.assign rfl rfl) ?_
  refine AList.nil ?_
  refine AWp.seq ?_
  refine AWp.region ?_
  refine AList.c 3 rfl rfl rfl (OpJ.fieldAddr rfl rfl fd71_0 rfl) ?_
  refine AList.c 4 rfl rfl rfl (OpJ.load rfl rfl ty3 rfl) ?_
  refine AList.c 5 rfl rfl rfl (OpJ.sub_ rfl rfl rfl (i64ok ?_)) ?_
  · omega
  refine AList.c 2 rfl rfl rfl (OpJ.assign rfl rfl) ?_
  refine AList.nil ?_
  refine AWp.ret ?_
  exact Fin.one rfl (rfl)
theorem drops_ok (w c l : Int) (hs : okSt w c l) : Pure Try.prog 33 [.agg [.int .i64 w, .int .i64 c, .int .i64 l]] (.int .i64 (dropsF w c l)) := by
  obtain ⟨hw, hc, hl⟩ := id hs
  refine Pure.start (N := 7) Try.func33 rfl rfl (Nat.le_of_ble_eq_true rfl) ?_
  refine AWp.seq ?_
  refine AWp.region ?_
  refine AList.c 1 rfl rfl rfl (OpJ.boxImm rfl rfl rfl) ?_
  refine AList.c 2 rfl rfl rfl (OpJ.assign rfl rfl) ?_
  refine AList.nil ?_
  refine AWp.seq ?_
  refine AWp.region ?_
  refine AList.c 3 rfl rfl rfl (OpJ.fieldAddr rfl rfl fd71_0 rfl) ?_
  refine AList.c 4 rfl rfl rfl (OpJ.load rfl rfl ty3 rfl) ?_
  refine AList.c 5 rfl rfl rfl (OpJ.mul rfl rfl rfl (i64ok ?_)) ?_
  · omega
  refine AList.c 6 rfl rfl rfl (OpJ.mul rfl rfl rfl (i64ok ?_)) ?_
  · omega
  refine AList.c 2 rfl rfl rfl (OpJ.assign rfl rfl) ?_
  refine AList.nil ?_
  refine AWp.ret ?_
  exact Fin.one rfl (rfl)
theorem coal_ok (w c l : Int) (hs : okSt w c l) : Pure Try.prog 34 [.agg [.int .i64 w, .int .i64 c, .int .i64 l]] (.int .i64 (coalF w c l)) := by
  obtain ⟨hw, hc, hl⟩ := id hs
  have b1 := coalB hs
  refine Pure.start (N := 9) Try.func34 rfl rfl (Nat.le_of_ble_eq_true rfl) ?_
  refine AWp.seq ?_
  refine AWp.region ?_
  refine AList.c 1 rfl rfl rfl (OpJ.boxImm rfl rfl rfl) ?_
  refine AList.c 2 rfl rfl rfl (OpJ.assign rfl rfl) ?_
  refine AList.nil ?_
  refine AWp.seq ?_
  refine AWp.regionDraw 7 mixed (by kernel_rfl) (by decide) ?_
  refine AQuiet.cons 3 rfl rfl rfl (OpJ.load rfl rfl ty71 rfl) ?_
  refine AQuiet.cons 4 rfl rfl rfl (OpJ.callP (dry_ok _ _ _ ?_) rfl rfl rfl rfl rf68) ?_
  · assumption
  refine AQuiet.cons 5 rfl rfl rfl (OpJ.fieldAddr rfl rfl fd71_1 rfl) ?_
  refine AQuiet.cons 6 rfl rfl rfl (OpJ.load rfl rfl ty3 rfl) ?_
  refine AQuiet.cons 7 rfl rfl rfl (OpJ.mul rfl rfl rfl (i64ok ?_)) ?_
  · omega
  refine AQuiet.cons 8 rfl rfl rfl (OpJ.mul rfl rfl rfl (i64ok ?_)) ?_
  · omega
  refine AQuiet.cons 2 rfl rfl rfl (OpJ.assign rfl rfl) ?_
  refine AQuiet.nil ?_
  refine AList.nil ?_
  refine AWp.ret ?_
  exact Fin.one rfl (rfl)
theorem smoke_ok (w c l : Int) (hs : okSt w c l) : Pure Try.prog 35 [.agg [.int .i64 w, .int .i64 c, .int .i64 l]] (.int .i64 (smokeF w c l)) := by
  obtain ⟨hw, hc, hl⟩ := id hs
  have b1 := ashB hs
  have b2 := smokeB hs
  unfold smokeF at b2
  refine Pure.start (N := 12) Try.func35 rfl rfl (Nat.le_of_ble_eq_true rfl) ?_
  refine AWp.seq ?_
  refine AWp.region ?_
  refine AList.c 1 rfl rfl rfl (OpJ.boxImm rfl rfl rfl) ?_
  refine AList.c 2 rfl rfl rfl (OpJ.assign rfl rfl) ?_
  refine AList.nil ?_
  refine AWp.seq ?_
  refine AWp.regionDraw 10 mixed (by kernel_rfl) (by decide) ?_
  refine AQuiet.cons 3 rfl rfl rfl (OpJ.load rfl rfl ty71 rfl) ?_
  refine AQuiet.cons 4 rfl rfl rfl (OpJ.callP (dry_ok _ _ _ ?_) rfl rfl rfl rfl rf68) ?_
  · assumption
  refine AQuiet.cons 5 rfl rfl rfl (OpJ.fieldAddr rfl rfl fd71_1 rfl) ?_
  refine AQuiet.cons 6 rfl rfl rfl (OpJ.load rfl rfl ty3 rfl) ?_
  refine AQuiet.cons 7 rfl rfl rfl (OpJ.sub_ rfl rfl rfl (i64ok ?_)) ?_
  · omega
  refine AQuiet.cons 8 rfl rfl rfl (OpJ.mul rfl rfl rfl (i64ok ?_)) ?_
  · omega
  refine AQuiet.cons 9 rfl rfl rfl (OpJ.fieldAddr rfl rfl fd71_2 rfl) ?_
  refine AQuiet.cons 10 rfl rfl rfl (OpJ.load rfl rfl ty3 rfl) ?_
  refine AQuiet.cons 11 rfl rfl rfl (OpJ.mul rfl rfl rfl (i64ok ?_)) ?_
  · omega
  refine AQuiet.cons 2 rfl rfl rfl (OpJ.assign rfl rfl) ?_
  refine AQuiet.nil ?_
  refine AList.nil ?_
  refine AWp.ret ?_
  exact Fin.one rfl (rfl)
theorem baked_ok (w c l : Int) (hs : okSt w c l) : Pure Try.prog 36 [.agg [.int .i64 w, .int .i64 c, .int .i64 l]] (.int .i64 (bakedF w c l)) := by
  obtain ⟨hw, hc, hl⟩ := id hs
  have b1 := ashB hs
  have b2 := bakedB hs
  unfold bakedF at b2
  refine Pure.start (N := 13) Try.func36 rfl rfl (Nat.le_of_ble_eq_true rfl) ?_
  refine AWp.seq ?_
  refine AWp.region ?_
  refine AList.c 1 rfl rfl rfl (OpJ.boxImm rfl rfl rfl) ?_
  refine AList.c 2 rfl rfl rfl (OpJ.assign rfl rfl) ?_
  refine AList.nil ?_
  refine AWp.seq ?_
  refine AWp.regionDraw 11 mixed (by kernel_rfl) (by decide) ?_
  refine AQuiet.cons 3 rfl rfl rfl (OpJ.load rfl rfl ty71 rfl) ?_
  refine AQuiet.cons 4 rfl rfl rfl (OpJ.callP (dry_ok _ _ _ ?_) rfl rfl rfl rfl rf68) ?_
  · assumption
  refine AQuiet.cons 5 rfl rfl rfl (OpJ.fieldAddr rfl rfl fd71_1 rfl) ?_
  refine AQuiet.cons 6 rfl rfl rfl (OpJ.load rfl rfl ty3 rfl) ?_
  refine AQuiet.cons 7 rfl rfl rfl (OpJ.sub_ rfl rfl rfl (i64ok ?_)) ?_
  · omega
  refine AQuiet.cons 8 rfl rfl rfl (OpJ.mul rfl rfl rfl (i64ok ?_)) ?_
  · omega
  refine AQuiet.cons 9 rfl rfl rfl (OpJ.fieldAddr rfl rfl fd71_2 rfl) ?_
  refine AQuiet.cons 10 rfl rfl rfl (OpJ.load rfl rfl ty3 rfl) ?_
  refine AQuiet.cons 11 rfl rfl rfl (OpJ.sub_ rfl rfl rfl (i64ok ?_)) ?_
  · omega
  refine AQuiet.cons 12 rfl rfl rfl (OpJ.mul rfl rfl rfl (i64ok ?_)) ?_
  · omega
  refine AQuiet.cons 2 rfl rfl rfl (OpJ.assign rfl rfl) ?_
  refine AQuiet.nil ?_
  refine AList.nil ?_
  refine AWp.ret ?_
  exact Fin.one rfl (rfl)
theorem lead_ok (w c l : Int) (hs : okSt w c l) : Pure Try.prog 37 [.agg [.int .i64 w, .int .i64 c, .int .i64 l]] (.int .i64 (leadF w c l)) := by
  obtain ⟨hw, hc, hl⟩ := id hs
  have b1 := coalFB hs
  have b2 := bakedB hs
  refine Pure.start (N := 8) Try.func37 rfl rfl (Nat.le_of_ble_eq_true rfl) ?_
  refine AWp.seq ?_
  refine AWp.region ?_
  refine AList.c 1 rfl rfl rfl (OpJ.boxImm rfl rfl rfl) ?_
  refine AList.c 2 rfl rfl rfl (OpJ.assign rfl rfl) ?_
  refine AList.nil ?_
  refine AWp.seq ?_
  refine AWp.regionDraw 6 mixed (by kernel_rfl) (by decide) ?_
  refine AQuiet.cons 3 rfl rfl rfl (OpJ.load rfl rfl ty71 rfl) ?_
  refine AQuiet.cons 4 rfl rfl rfl (OpJ.callP (coal_ok _ _ _ ?_) rfl rfl rfl rfl rf34) ?_
  · assumption
  refine AQuiet.cons 5 rfl rfl rfl (OpJ.load rfl rfl ty71 rfl) ?_
  refine AQuiet.cons 6 rfl rfl rfl (OpJ.callP (baked_ok _ _ _ ?_) rfl rfl rfl rfl rf36) ?_
  · assumption
  refine AQuiet.cons 7 rfl rfl rfl (OpJ.add rfl rfl rfl (i64ok ?_)) ?_
  · omega
  refine AQuiet.cons 2 rfl rfl rfl (OpJ.assign rfl rfl) ?_
  refine AQuiet.nil ?_
  refine AList.nil ?_
  refine AWp.ret ?_
  exact Fin.one rfl (rfl)
theorem over_ok (n w c l : Int) (hn : 0 ≤ n ∧ n ≤ 1000) (hs : okSt w c l) : Pure Try.prog 71 [.agg [.int .i64 w, .int .i64 c, .int .i64 l], .int .i64 n] (.int .i64 (overF n w c l)) := by
  obtain ⟨hw, hc, hl⟩ := id hs
  have b1 := coalFB hs
  have b2 := leadB hs
  have b3 := nleadB hn hs
  refine Pure.start (N := 13) Try.func71 rfl rfl (Nat.le_of_ble_eq_true rfl) ?_
  refine AWp.seq ?_
  refine AWp.region ?_
  refine AList.c 2 rfl rfl rfl (OpJ.boxImm rfl rfl rfl) ?_
  refine AList.c 4 rfl rfl rfl (OpJ.assign rfl rfl) ?_
  refine AList.nil ?_
  refine AWp.seq ?_
  refine AWp.regionDraw 9 mixed (by kernel_rfl) (by decide) ?_
  refine AQuiet.cons 5 rfl rfl rfl (OpJ.load rfl rfl ty71 rfl) ?_
  refine AQuiet.cons 6 rfl rfl rfl (OpJ.callP (coal_ok _ _ _ ?_) rfl rfl rfl rfl rf34) ?_
  · assumption
  refine AQuiet.cons 7 rfl rfl rfl (OpJ.mul rfl rfl rfl (i64ok ?_)) ?_
  · omega
  refine AQuiet.cons 8 rfl rfl rfl (OpJ.move rfl rfl) ?_
  refine AQuiet.cons 9 rfl rfl rfl (OpJ.load rfl rfl ty71 rfl) ?_
  refine AQuiet.cons 10 rfl rfl rfl (OpJ.callP (lead_ok _ _ _ ?_) rfl rfl rfl rfl rf37) ?_
  · assumption
  refine AQuiet.cons 11 rfl rfl rfl (OpJ.mul rfl rfl rfl (i64ok ?_)) ?_
  · omega
  refine AQuiet.cons 12 rfl rfl rfl (OpJ.sub_ rfl rfl rfl (i64ok ?_)) ?_
  · omega
  refine AQuiet.cons 4 rfl rfl rfl (OpJ.assign rfl rfl) ?_
  refine AQuiet.nil ?_
  refine AList.nil ?_
  refine AWp.ret ?_
  exact Fin.one rfl (rfl)
theorem down_ok (n d : Int) (hd : 0 < d ∧ d ≤ 4000000000000000000) (hn : -4000000000000000000 ≤ n ∧ n ≤ 4000000000000000000) : Pure Try.prog 39 [.int .i64 n, .int .i64 d] (.int .i64 (n / d)) := by
  have b1 := tdiv_le hd.1 hn
  refine Pure.start (N := 16) Try.func39 rfl rfl (Nat.le_of_ble_eq_true rfl) ?_
  refine AWp.seq ?_
  refine AWp.region ?_
  refine AList.c 4 rfl rfl rfl (OpJ.assign rfl rfl) ?_
  refine AList.nil ?_
  refine AWp.seq ?_
  refine AWp.region ?_
  refine AList.c 6 rfl rfl rfl (OpJ.move rfl rfl) ?_
  refine AList.c 7 rfl rfl rfl (OpJ.move rfl rfl) ?_
  refine AList.c 8 rfl rfl rfl (OpJ.quo rfl rfl rfl ?_ (i64ok ?_)) ?_
  · omega
  · omega
  refine AList.c 5 rfl rfl rfl (OpJ.assign rfl rfl) ?_
  refine AList.nil ?_
  refine AWp.seq ?_
  refine AWp.seq ?_
  refine AWp.region ?_
  refine AList.c 9 rfl rfl rfl (OpJ.move rfl rfl) ?_
  refine AList.c 10 rfl rfl rfl (OpJ.move rfl rfl) ?_
  refine AList.c 11 rfl rfl rfl (OpJ.rem rfl rfl rfl ?_ rfl) ?_
  · omega
  refine AList.c 12 rfl rfl rfl (OpJ.lss rfl rfl rfl) ?_
  refine AList.nil ?_
  refine AWp.cond _ rfl (fun hc0 => ?_) (fun hc0 => ?_)
  · skip
    refine AWp.region ?_
    refine AList.c 13 rfl rfl rfl (OpJ.move rfl rfl) ?_
    refine AList.c 14 rfl rfl rfl (OpJ.sub_ rfl rfl rfl (i64ok ?_)) ?_
    · omega
    refine AList.c 5 rfl rfl rfl (OpJ.assign rfl rfl) ?_
    refine AList.nil ?_
    refine AWp.seq ?_
    refine AWp.region ?_
    refine AList.c 15 rfl rfl rfl (OpJ.move rfl rfl) ?_
    refine AList.c 4 rfl rfl rfl (OpJ.assign rfl rfl) ?_
    refine AList.nil ?_
    refine AWp.ret ?_
    refine Fin.oneE rfl rfl ?_
    rw [← tdiv_floor hd.1]
    split <;> simp_all <;> omega
  · skip
    refine AWp.skip ?_
    refine AWp.seq ?_
    refine AWp.region ?_
    refine AList.c 15 rfl rfl rfl (OpJ.move rfl rfl) ?_
    refine AList.c 4 rfl rfl rfl (OpJ.assign rfl rfl) ?_
    refine AList.nil ?_
    refine AWp.ret ?_
    refine Fin.oneE rfl rfl ?_
    rw [← tdiv_floor hd.1]
    split <;> simp_all <;> omega
theorem up_ok (n d : Int) (hd : 0 < d ∧ d ≤ 4000000000000000000) (hn : -4000000000000000000 ≤ n ∧ n ≤ 4000000000000000000) : Pure Try.prog 40 [.int .i64 n, .int .i64 d] (.int .i64 (0 - (0 - n) / d)) := by
  have b1 := ediv_B (n := 0 - n) (B := 4000000000000000000) hd.1 (by omega) (by omega)
  refine Pure.start (N := 10) Try.func40 rfl rfl (Nat.le_of_ble_eq_true rfl) ?_
  refine AWp.seq ?_
  refine AWp.region ?_
  refine AList.c 4 rfl rfl rfl (OpJ.assign rfl rfl) ?_
  refine AList.nil ?_
  refine AWp.seq ?_
  refine AWp.region ?_
  refine AList.c 5 rfl rfl rfl (OpJ.move rfl rfl) ?_
  refine AList.c 6 rfl rfl rfl (OpJ.neg rfl rfl (i64ok ?_)) ?_
  · omega
  refine AList.c 7 rfl rfl rfl (OpJ.move rfl rfl) ?_
  refine AList.c 8 rfl rfl rfl (OpJ.callP (down_ok _ _ ?_ ?_) rfl rfl rfl rfl rf39) ?_
  · omega
  · omega
  refine AList.c 9 rfl rfl rfl (OpJ.neg rfl rfl (i64ok ?_)) ?_
  · omega
  refine AList.c 4 rfl rfl rfl (OpJ.assign rfl rfl) ?_
  refine AList.nil ?_
  refine AWp.ret ?_
  exact Fin.one rfl (rfl)
theorem rDown_ok (n d : Int) (hd : 0 < d ∧ d ≤ 4000000000000000000) (hn : -4000000000000000000 ≤ n ∧ n ≤ 4000000000000000000) : Pure Try.prog 52 [.int .i64 n, .int .i64 d] (.int .i64 (n / d)) := by
  have b1 := tdiv_le hd.1 hn
  have b2 := Int.mul_tdiv_add_tmod n d
  rw [Int.mul_comm] at b2
  have b3 := Int.tmod_lt_of_pos n hd.1
  have b4 := Int.lt_tmod_of_pos n hd.1
  have b5 := tdiv_mul (n := n) hd.1
  refine Pure.start (N := 17) Try.func52 rfl rfl (Nat.le_of_ble_eq_true rfl) ?_
  refine AWp.seq ?_
  refine AWp.region ?_
  refine AList.c 4 rfl rfl rfl (OpJ.assign rfl rfl) ?_
  refine AList.nil ?_
  refine AWp.seq ?_
  refine AWp.region ?_
  refine AList.c 6 rfl rfl rfl (OpJ.move rfl rfl) ?_
  refine AList.c 7 rfl rfl rfl (OpJ.move rfl rfl) ?_
  refine AList.c 8 rfl rfl rfl (OpJ.quo rfl rfl rfl ?_ (i64ok ?_)) ?_
  · omega
  · omega
  refine AList.c 5 rfl rfl rfl (OpJ.assign rfl rfl) ?_
  refine AList.nil ?_
  refine AWp.seq ?_
  refine AWp.seq ?_
  refine AWp.region ?_
  refine AList.c 9 rfl rfl rfl (OpJ.move rfl rfl) ?_
  refine AList.c 10 rfl rfl rfl (OpJ.move rfl rfl) ?_
  refine AList.c 11 rfl rfl rfl (OpJ.mul rfl rfl rfl (i64ok ?_)) ?_
  · omega
  refine AList.c 12 rfl rfl rfl (OpJ.move rfl rfl) ?_
  refine AList.c 13 rfl rfl rfl (OpJ.gtr rfl rfl rfl) ?_
  refine AList.nil ?_
  refine AWp.cond _ rfl (fun hc0 => ?_) (fun hc0 => ?_)
  · skip
    refine AWp.region ?_
    refine AList.c 14 rfl rfl rfl (OpJ.move rfl rfl) ?_
    refine AList.c 15 rfl rfl rfl (OpJ.sub_ rfl rfl rfl (i64ok ?_)) ?_
    · omega
    refine AList.c 5 rfl rfl rfl (OpJ.assign rfl rfl) ?_
    refine AList.nil ?_
    refine AWp.seq ?_
    refine AWp.region ?_
    refine AList.c 16 rfl rfl rfl (OpJ.move rfl rfl) ?_
    refine AList.c 4 rfl rfl rfl (OpJ.assign rfl rfl) ?_
    refine AList.nil ?_
    refine AWp.ret ?_
    refine Fin.oneE rfl rfl ?_
    rw [← tdiv_floor hd.1]
    rw [b5] at hc0
    split <;> simp_all <;> omega
  · skip
    refine AWp.skip ?_
    refine AWp.seq ?_
    refine AWp.region ?_
    refine AList.c 16 rfl rfl rfl (OpJ.move rfl rfl) ?_
    refine AList.c 4 rfl rfl rfl (OpJ.assign rfl rfl) ?_
    refine AList.nil ?_
    refine AWp.ret ?_
    refine Fin.oneE rfl rfl ?_
    rw [← tdiv_floor hd.1]
    rw [b5] at hc0
    split <;> simp_all <;> omega
theorem rUp_ok (n d : Int) (hd : 0 < d ∧ d ≤ 4000000000000000000) (hn : -4000000000000000000 ≤ n ∧ n ≤ 4000000000000000000) : Pure Try.prog 51 [.int .i64 n, .int .i64 d] (.int .i64 (0 - (0 - n) / d)) := by
  have b1 := ediv_B (n := 0 - n) (B := 4000000000000000000) hd.1 (by omega) (by omega)
  refine Pure.start (N := 10) Try.func51 rfl rfl (Nat.le_of_ble_eq_true rfl) ?_
  refine AWp.seq ?_
  refine AWp.region ?_
  refine AList.c 4 rfl rfl rfl (OpJ.assign rfl rfl) ?_
  refine AList.nil ?_
  refine AWp.seq ?_
  refine AWp.region ?_
  refine AList.c 5 rfl rfl rfl (OpJ.move rfl rfl) ?_
  refine AList.c 6 rfl rfl rfl (OpJ.neg rfl rfl (i64ok ?_)) ?_
  · omega
  refine AList.c 7 rfl rfl rfl (OpJ.move rfl rfl) ?_
  refine AList.c 8 rfl rfl rfl (OpJ.callP (rDown_ok _ _ ?_ ?_) rfl rfl rfl rfl rf52) ?_
  · omega
  · omega
  refine AList.c 9 rfl rfl rfl (OpJ.neg rfl rfl (i64ok ?_)) ?_
  · omega
  refine AList.c 4 rfl rfl rfl (OpJ.assign rfl rfl) ?_
  refine AList.nil ?_
  refine AWp.ret ?_
  exact Fin.one rfl (rfl)
theorem pick_ok (a b n : Int) (hab : 0 ≤ a ∧ a ≤ b ∧ b ≤ 1000000000) (hn : 0 ≤ n ∧ n ≤ 4294967295) : Pure Try.prog 61 [.agg [.int .i64 a, .int .i64 b], .int .u32 n] (.int .i64 (a + n.tmod (b - a + 1))) := by
  have b1 := Int.tmod_lt_of_pos n (show 0 < b - a + 1 by omega)
  have b2 := Int.tmod_nonneg (b - a + 1) hn.1
  refine Pure.start (N := 17) Try.func61 rfl rfl (Nat.le_of_ble_eq_true rfl) ?_
  refine AWp.seq ?_
  refine AWp.region ?_
  refine AList.c 2 rfl rfl rfl (OpJ.boxImm rfl rfl rfl) ?_
  refine AList.c 4 rfl rfl rfl (OpJ.assign rfl rfl) ?_
  refine AList.nil ?_
  refine AWp.seq ?_
  refine AWp.regionDraw 13 mixed (by kernel_rfl) (by decide) ?_
  refine AQuiet.cons 5 rfl rfl rfl (OpJ.fieldAddr rfl rfl fd25_0 rfl) ?_
  refine AQuiet.cons 6 rfl rfl rfl (OpJ.load rfl rfl ty3 rfl) ?_
  refine AQuiet.cons 7 rfl rfl rfl (OpJ.move rfl rfl) ?_
  refine AQuiet.cons 8 rfl rfl rfl (OpJ.convInt rfl rfl (by rw [un54]; rfl) un3 (i64ok ?_)) ?_
  · omega
  refine AQuiet.cons 9 rfl rfl rfl (OpJ.fieldAddr rfl rfl fd25_1 rfl) ?_
  refine AQuiet.cons 10 rfl rfl rfl (OpJ.load rfl rfl ty3 rfl) ?_
  refine AQuiet.cons 11 rfl rfl rfl (OpJ.fieldAddr rfl rfl fd25_0 rfl) ?_
  refine AQuiet.cons 12 rfl rfl rfl (OpJ.load rfl rfl ty3 rfl) ?_
  refine AQuiet.cons 13 rfl rfl rfl (OpJ.sub_ rfl rfl rfl (i64ok ?_)) ?_
  · omega
  refine AQuiet.cons 14 rfl rfl rfl (OpJ.add rfl rfl rfl (i64ok ?_)) ?_
  · omega
  refine AQuiet.cons 15 rfl rfl rfl (OpJ.rem rfl rfl rfl ?_ rfl) ?_
  · omega
  refine AQuiet.cons 16 rfl rfl rfl (OpJ.add rfl rfl rfl (i64ok ?_)) ?_
  · omega
  refine AQuiet.cons 4 rfl rfl rfl (OpJ.assign rfl rfl) ?_
  refine AQuiet.nil ?_
  refine AList.nil ?_
  refine AWp.ret ?_
  exact Fin.one rfl (rfl)
theorem inside_ok (n a b : Int) (ha : -1000000000 ≤ a ∧ a ≤ 1000000000) (hb : -1000000000 ≤ b ∧ b ≤ 1000000000) : Pure Try.prog 23 [.int .i64 n, .agg [.int .i64 a, .int .i64 b]] (.bool (decide (a * 1000000000 ≤ n) && decide (n ≤ b * 1000000000))) := by
  refine Pure.start (N := 17) Try.func23 rfl rfl (Nat.le_of_ble_eq_true rfl) ?_
  refine AWp.seq ?_
  refine AWp.region ?_
  refine AList.c 3 rfl rfl rfl (OpJ.boxImm rfl rfl rfl) ?_
  refine AList.c 4 rfl rfl rfl (OpJ.assign rfl rfl) ?_
  refine AList.nil ?_
  refine AWp.seq ?_
  refine AWp.region ?_
  refine AList.c 5 rfl rfl rfl (OpJ.move rfl rfl) ?_
  refine AList.c 6 rfl rfl rfl (OpJ.fieldAddr rfl rfl fd25_0 rfl) ?_
  refine AList.c 7 rfl rfl rfl (OpJ.load rfl rfl ty3 rfl) ?_
  refine AList.c 8 rfl rfl rfl (OpJ.mul rfl rfl rfl (i64ok ?_)) ?_
  · omega
  refine AList.c 9 rfl rfl rfl (OpJ.geq rfl rfl rfl) ?_
  refine AList.c 10 rfl rfl rfl (OpJ.move rfl rfl) ?_
  refine AList.g 11 10 rfl rfl rfl rfl rfl rfl rfl [(0, _)] (fun h => And.intro (.inl rfl) (trivial)) (fun h => (OpJ.move rfl rfl)) ?_
  refine AList.g 12 10 rfl rfl rfl rfl rfl rfl rfl [(3, _)] (fun h => And.intro (.inl rfl) (trivial)) (fun h => (OpJ.fieldAddr rfl rfl fd25_1 rfl)) ?_
  refine AList.g 13 10 rfl rfl rfl rfl rfl rfl rfl [(12, _)] (fun h => And.intro (.inr ⟨_, rfl, h⟩) (trivial)) (fun h => (OpJ.load rfl rfl ty3 rfl)) ?_
  refine AList.g 14 10 rfl rfl rfl rfl rfl rfl rfl [(13, _)] (fun h => And.intro (.inr ⟨_, rfl, h⟩) (trivial)) (fun h => (OpJ.mul rfl rfl rfl (i64ok ?_))) ?_
  · omega
  refine AList.g 15 10 rfl rfl rfl rfl rfl rfl rfl [(11, _), (14, _)] (fun h => And.intro (.inr ⟨_, rfl, h⟩) (And.intro (.inr ⟨_, rfl, h⟩) (trivial))) (fun h => (OpJ.leq rfl rfl rfl)) ?_
  refine AList.c 16 rfl rfl rfl (OpJ.and_ rfl rfl rfl ?_) ?_
  · first | (intro h; rw [h]; rfl) | (intro h; simp_all)
  refine AList.c 4 rfl rfl rfl (OpJ.assign rfl rfl) ?_
  refine AList.nil ?_
  refine AWp.ret ?_
  exact Fin.one rfl (rfl)
end Go.Proofs.Ytmcejcidbekpkaa
