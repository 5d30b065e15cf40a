/-
  Chapter 14: more facts on types and functions, by the kernel.
  The reference: reports are written.
  The reference: cards are written.
-/
import Derived.Test.YtcmkdegeljjalaaGreatDoorBqG
import Derived.Test.YtcmkdegeljjalaaGreatDoorFaC
import Derived.Test.YtcmkdegeljjalaaGreatDoorBqP
section
set_option maxRecDepth 100000
namespace Go.Proofs.YtcmkdegeljjalaaGreatDoor
open Go.AF
theorem rf10 : realFn Tryz.prog 10 = true := by kernel_rfl
theorem rf14 : realFn Tryz.prog 14 = true := by kernel_rfl
theorem rf16 : realFn Tryz.prog 16 = true := by kernel_rfl
theorem rf18 : realFn Tryz.prog 18 = true := by kernel_rfl
theorem rf29 : realFn Tryz.prog 29 = true := by kernel_rfl
theorem rf30 : realFn Tryz.prog 30 = true := by kernel_rfl
theorem rf37 : realFn Tryz.prog 37 = true := by kernel_rfl
theorem rf38 : realFn Tryz.prog 38 = true := by kernel_rfl
theorem rf39 : realFn Tryz.prog 39 = true := by kernel_rfl
theorem rf52 : realFn Tryz.prog 52 = true := by kernel_rfl
theorem rf55 : realFn Tryz.prog 55 = true := by kernel_rfl
theorem rf6 : realFn Tryz.prog 6 = true := by kernel_rfl
theorem rf72 : realFn Tryz.prog 72 = true := by kernel_rfl
theorem rf73 : realFn Tryz.prog 73 = true := by kernel_rfl
theorem rf8 : realFn Tryz.prog 8 = true := by kernel_rfl
end Go.Proofs.YtcmkdegeljjalaaGreatDoor
end

section
set_option linter.unusedVariables false
set_option maxRecDepth 100000
set_option maxHeartbeats 4000000
set_option linter.unusedSimpArgs false
namespace Go.Proofs.YtcmkdegeljjalaaGreatDoor
open Go.AF
theorem rspan_ok (s : Spn) (lo hi : Int) : Pure Tryz.prog 72 [.agg s.cells, .int .i64 lo, .int .i64 hi] (.bool (spnB s lo hi)) := by
  refine Pure.start (N := 24) Tryz.func72 rfl rfl (Nat.le_of_ble_eq_true rfl) ?_
  refine AWp.seq ?_
  refine AWp.region ?_
  refine AList.c 3 rfl rfl rfl (OpJ.boxImm rfl rfl rfl) ?_
  refine AList.c 6 rfl rfl rfl (OpJ.assign rfl rfl) ?_
  refine AList.nil ?_
  refine AWp.seq ?_
  refine AWp.region ?_
  refine AList.c 7 rfl rfl rfl (OpJ.move rfl rfl) ?_
  refine AList.c 8 rfl rfl rfl (OpJ.fieldAddr rfl rfl fd44_0 rfl) ?_
  refine AList.c 9 rfl rfl rfl (OpJ.load (v := .p (.int .i64 s.lo)) rfl rfl ty3 rfl) ?_
  refine AList.c 10 rfl rfl rfl (OpJ.leq rfl rfl rfl) ?_
  refine AList.c 11 rfl rfl rfl (OpJ.move rfl rfl) ?_
  refine AList.g 12 11 rfl rfl rfl rfl rfl rfl rfl [(3, _)] (fun h => And.intro (.inl rfl) (trivial)) (fun h => (OpJ.fieldAddr rfl rfl fd44_0 rfl)) ?_
  refine AList.g 13 11 rfl rfl rfl rfl rfl rfl rfl [(12, _)] (fun h => And.intro (.inr ⟨_, rfl, h⟩) (trivial)) (fun h => (OpJ.load (v := .p (.int .i64 s.lo)) rfl rfl ty3 rfl)) ?_
  refine AList.g 14 11 rfl rfl rfl rfl rfl rfl rfl [(3, _)] (fun h => And.intro (.inl rfl) (trivial)) (fun h => (OpJ.fieldAddr rfl rfl fd44_1 rfl)) ?_
  refine AList.g 15 11 rfl rfl rfl rfl rfl rfl rfl [(14, _)] (fun h => And.intro (.inr ⟨_, rfl, h⟩) (trivial)) (fun h => (OpJ.load (v := .p (.int .i64 s.hi)) rfl rfl ty3 rfl)) ?_
  refine AList.g 16 11 rfl rfl rfl rfl rfl rfl rfl [(13, _), (15, _)] (fun h => And.intro (.inr ⟨_, rfl, h⟩) (And.intro (.inr ⟨_, rfl, h⟩) (trivial))) (fun h => (OpJ.leq rfl rfl rfl)) ?_
  refine AList.c 17 rfl rfl rfl (OpJ.and_ rfl rfl rfl ?_) ?_
  · first | (intro h; rw [h]; rfl) | (intro h; simp_all)
  refine AList.c 18 rfl rfl rfl (OpJ.move rfl rfl) ?_
  refine AList.g 19 18 rfl rfl rfl rfl rfl rfl rfl [(3, _)] (fun h => And.intro (.inl rfl) (trivial)) (fun h => (OpJ.fieldAddr rfl rfl fd44_1 rfl)) ?_
  refine AList.g 20 18 rfl rfl rfl rfl rfl rfl rfl [(19, _)] (fun h => And.intro (.inr ⟨_, rfl, h⟩) (trivial)) (fun h => (OpJ.load (v := .p (.int .i64 s.hi)) rfl rfl ty3 rfl)) ?_
  refine AList.g 21 18 rfl rfl rfl rfl rfl rfl rfl [(2, _)] (fun h => And.intro (.inl rfl) (trivial)) (fun h => (OpJ.move rfl rfl)) ?_
  refine AList.g 22 18 rfl rfl rfl rfl rfl rfl rfl [(20, _), (21, _)] (fun h => And.intro (.inr ⟨_, rfl, h⟩) (And.intro (.inr ⟨_, rfl, h⟩) (trivial))) (fun h => (OpJ.leq rfl rfl rfl)) ?_
  refine AList.c 23 rfl rfl rfl (OpJ.and_ rfl rfl rfl ?_) ?_
  · first | (intro h; rw [h]; rfl) | (intro h; simp_all)
  refine AList.c 6 rfl rfl rfl (OpJ.assign rfl rfl) ?_
  refine AList.nil ?_
  refine AWp.ret ?_
  exact Fin.one rfl (rfl)
theorem rreports_ok (l : List Rpt) (hl : l.length ≤ bigN) (hs : ∀ r ∈ l, r.strokes.length ≤ bigN) : Pure Tryz.prog 29 [rptsV l] (.bool (rptsB l)) := by
  have hl2 := hl
  unfold bigN at hl2
  refine Pure.start (N := 78) Tryz.func29 rfl rfl (Nat.le_of_ble_eq_true rfl) ?_
  refine AWp.seq ?_
  refine AWp.region ?_
  refine AList.c 2 rfl rfl rfl (OpJ.assign rfl rfl) ?_
  refine AList.nil ?_
  refine AWp.seq ?_
  refine AWp.seq ?_
  refine AWp.region ?_
  refine AList.c 3 rfl rfl rfl (OpJ.assign rfl rfl) ?_
  refine AList.nil ?_
  refine AWp.block ?_
  refine AWp.loopHL [0] (fun g => [(3, .p (.int .i64 ((g : Nat) : Int)))]) (fun g => []) (fun g => g ≤ l.length ∧ riseB Rpt.batch rptB (-1) l = riseB Rpt.batch rptB (lastR Rpt.batch Rpt.d l g) (l.drop g) ∧ -1 ≤ lastR Rpt.batch Rpt.d l g) (fun g => l.length - g) 0 ⟨Nat.zero_le _, rfl, (by show (-1 : Int) ≤ -1; decide)⟩ (To.sub (Sub.chk (Sub.cons rfl (Sub.nil)))) (fun i ⟨hg1, hg2, hg3⟩ => ?_)
  refine AWp.seq ?_
  refine AWp.seq ?_
  refine AWp.region ?_
  refine AList.c 6 rfl rfl rfl (OpJ.move rfl rfl) ?_
  refine AList.c 7 rfl rfl rfl (OpJ.move rfl rfl) ?_
  refine AList.c 8 rfl rfl rfl (OpJ.lenSlice rfl rfl sl22 rfl) ?_
  refine AList.c 9 rfl rfl rfl (OpJ.lss rfl rfl rfl) ?_
  refine AList.nil ?_
  refine AWp.cond _ rfl (fun hc0 => ?_) (fun hc0 => ?_)
  · skip
    have hk0 : i < l.length := by have h := of_decide_eq_true hc0; omega
    have hps := hs _ (gt_mem Rpt.d hk0)
    unfold bigN at hps
    have hrc := ris_c (n := (gt Rpt.d l i).batch) (last_ge (num := Rpt.batch) (d := Rpt.d) (l := l) (i := i)).1 (last_ge (num := Rpt.batch) (d := Rpt.d) (l := l) (i := i)).2 hg3
    refine AWp.skip ?_
    refine AWp.seq ?_
    refine AWp.block ?_
    refine AWp.seq ?_
    refine AWp.region ?_
    refine AList.c 12 rfl rfl rfl (OpJ.move rfl rfl) ?_
    refine AList.c 13 rfl rfl rfl (OpJ.move rfl rfl) ?_
    refine AList.c 14 rfl rfl rfl (OpJ.indexG (g := gt Rpt.d l) (gt_get _) rfl rfl rfl sl22 el22 rfl (fun _ => rfl) (by decide) hk0) ?_
    refine AList.c 15 rfl rfl rfl (OpJ.load (v := .p (.agg (gt Rpt.d l i).cells)) rfl rfl ty46 rfl) ?_
    refine AList.c 4 rfl rfl rfl (OpJ.allocOwn rfl zr46 rfl) ?_
    refine AList.c0 rfl rfl (OpJ.store rfl rfl rfl rfl rfl ty46 rfl rfl) ?_
    refine AList.nil ?_
    refine AWp.seq ?_
    refine AWp.seq ?_
    refine AWp.regionDraw 37 mixed (by kernel_rfl) (by decide) ?_
    refine AQuiet.cons 16 rfl rfl rfl (OpJ.fieldAddr rfl rfl fd46_0 rfl) ?_
    refine AQuiet.cons 17 rfl rfl rfl (OpJ.load (v := .p (.int .i64 (gt Rpt.d l i).batch)) rfl rfl ty3 rfl) ?_
    refine AQuiet.cons 18 rfl rfl rfl (OpJ.callP (rin_ok _ _ _) rfl rfl rfl rfl rf71) ?_
    refine AQuiet.cons 19 rfl rfl rfl (OpJ.not_ rfl rfl) ?_
    refine AQuiet.cons 20 rfl rfl rfl (OpJ.move rfl rfl) ?_
    refine AQuiet.guard 21 20 rfl rfl rfl rfl rfl rfl rfl [(3, _)] (fun h => And.intro (.inl rfl) (trivial)) (fun h => (OpJ.move rfl rfl)) ?_
    refine AQuiet.guard 22 20 rfl rfl rfl rfl rfl rfl rfl [(21, _)] (fun h => And.intro (.inr ⟨_, rfl, h⟩) (trivial)) (fun h => (OpJ.gtr rfl rfl rfl)) ?_
    refine AQuiet.guard 23 20 rfl rfl rfl rfl rfl rfl rfl [(22, _)] (fun h => And.intro (.inr ⟨_, rfl, h⟩) (trivial)) (fun h => (OpJ.move rfl rfl)) ?_
    refine AQuiet.guard 24 23 rfl rfl rfl rfl rfl rfl rfl [(4, _)] (fun h => And.intro (.inl rfl) (trivial)) (fun h => (OpJ.fieldAddr rfl rfl fd46_0 rfl)) ?_
    refine AQuiet.guard 25 23 rfl rfl rfl rfl rfl rfl rfl [(24, _)] (fun h => And.intro (.inr ⟨_, rfl, h⟩) (trivial)) (fun h => (OpJ.load (v := .p (.int .i64 (gt Rpt.d l i).batch)) rfl rfl ty3 rfl)) ?_
    refine AQuiet.guard 26 23 rfl rfl rfl rfl rfl rfl rfl [(0, _)] (fun h => And.intro (.inl rfl) (trivial)) (fun h => (OpJ.move rfl rfl)) ?_
    refine AQuiet.guard 27 23 rfl rfl rfl rfl rfl rfl rfl [(3, _)] (fun h => And.intro (.inl rfl) (trivial)) (fun h => (OpJ.move rfl rfl)) ?_
    refine AQuiet.guard 28 23 rfl rfl rfl rfl rfl rfl rfl [(27, _)] (fun h => And.intro (.inr ⟨_, rfl, h⟩) (trivial)) (fun h => (OpJ.sub_ (m := ((i - 1 : Nat) : Int)) rfl rfl rfl ((i64ok (by simp only [Bool.and_eq_true, beq_iff_eq, decide_eq_true_eq, decide_eq_false_iff_not] at h; omega)).trans (by simp only [Bool.and_eq_true, beq_iff_eq, decide_eq_true_eq, decide_eq_false_iff_not] at h; omega)))) ?_
    refine AQuiet.guard 29 23 rfl rfl rfl rfl rfl rfl rfl [(26, _), (28, _)] (fun h => And.intro (.inr ⟨_, rfl, h⟩) (And.intro (.inr ⟨_, rfl, h⟩) (trivial))) (fun h => (OpJ.indexG (g := gt Rpt.d l) (k := (i - 1)) (gt_get _) rfl rfl rfl sl22 el22 rfl (fun _ => rfl) (by decide) (by omega))) ?_
    refine AQuiet.guard 30 23 rfl rfl rfl rfl rfl rfl rfl [(29, _)] (fun h => And.intro (.inr ⟨_, rfl, h⟩) (trivial)) (fun h => (OpJ.fieldAddr rfl rfl fd46_0 rfl)) ?_
    refine AQuiet.guard 31 23 rfl rfl rfl rfl rfl rfl rfl [(30, _)] (fun h => And.intro (.inr ⟨_, rfl, h⟩) (trivial)) (fun h => (OpJ.load (v := .p (.int .i64 (gt Rpt.d l (i - 1)).batch)) rfl rfl ty3 rfl)) ?_
    refine AQuiet.guard 32 23 rfl rfl rfl rfl rfl rfl rfl [(25, _), (31, _)] (fun h => And.intro (.inr ⟨_, rfl, h⟩) (And.intro (.inr ⟨_, rfl, h⟩) (trivial))) (fun h => (OpJ.leq rfl rfl rfl)) ?_
    refine AQuiet.guard 33 20 rfl rfl rfl rfl rfl rfl rfl [(23, _), (32, _)] (fun h => And.intro (.inr ⟨_, rfl, h⟩) (And.intro (.inl rfl) (trivial))) (fun h => (OpJ.and_ rfl rfl rfl ?_)) ?_
    · first | (intro h; rw [h]; rfl) | (intro h; simp_all)
    refine AQuiet.cons 34 rfl rfl rfl (OpJ.or_ rfl rfl rfl ?_) ?_
    · first | (intro h; rw [h]; rfl) | (intro h; simp_all)
    refine AQuiet.cons 35 rfl rfl rfl (OpJ.move rfl rfl) ?_
    refine AQuiet.guard 36 35 rfl rfl rfl rfl rfl rfl rfl [(4, _)] (fun h => And.intro (.inl rfl) (trivial)) (fun h => (OpJ.fieldAddr rfl rfl fd46_1 rfl)) ?_
    refine AQuiet.guard 37 35 rfl rfl rfl rfl rfl rfl rfl [(36, _)] (fun h => And.intro (.inr ⟨_, rfl, h⟩) (trivial)) (fun h => (OpJ.load (v := .p (stksV (gt Rpt.d l i).strokes)) rfl rfl ty42 rfl)) ?_
    refine AQuiet.guard 38 35 rfl rfl rfl rfl rfl rfl rfl [(37, _)] (fun h => And.intro (.inr ⟨_, rfl, h⟩) (trivial)) (fun h => (OpJ.lenSlice rfl rfl sl42 rfl)) ?_
    refine AQuiet.guard 39 35 rfl rfl rfl rfl rfl rfl rfl [(38, _)] (fun h => And.intro (.inr ⟨_, rfl, h⟩) (trivial)) (fun h => (OpJ.gtr rfl rfl rfl)) ?_
    refine AQuiet.cons 40 rfl rfl rfl (OpJ.or_ rfl rfl rfl ?_) ?_
    · first | (intro h; rw [h]; rfl) | (intro h; simp_all)
    refine AQuiet.cons 41 rfl rfl rfl (OpJ.move rfl rfl) ?_
    refine AQuiet.guard 42 41 rfl rfl rfl rfl rfl rfl rfl [(4, _)] (fun h => And.intro (.inl rfl) (trivial)) (fun h => (OpJ.fieldAddr rfl rfl fd46_2 rfl)) ?_
    refine AQuiet.guard 43 41 rfl rfl rfl rfl rfl rfl rfl [(42, _)] (fun h => And.intro (.inr ⟨_, rfl, h⟩) (trivial)) (fun h => (OpJ.load (v := .p (.agg (gt Rpt.d l i).strength.cells)) rfl rfl ty44 rfl)) ?_
    refine AQuiet.guard 44 41 rfl rfl rfl rfl rfl rfl rfl [(43, _)] (fun h => And.intro (.inr ⟨_, rfl, h⟩) (trivial)) (fun h => (OpJ.callP (rspan_ok _ _ _) rfl rfl rfl rfl rf72)) ?_
    refine AQuiet.guard 45 41 rfl rfl rfl rfl rfl rfl rfl [(44, _)] (fun h => And.intro (.inr ⟨_, rfl, h⟩) (trivial)) (fun h => (OpJ.not_ rfl rfl)) ?_
    refine AQuiet.cons 46 rfl rfl rfl (OpJ.or_ rfl rfl rfl ?_) ?_
    · first | (intro h; rw [h]; rfl) | (intro h; simp_all)
    refine AQuiet.cons 47 rfl rfl rfl (OpJ.move rfl rfl) ?_
    refine AQuiet.guard 48 47 rfl rfl rfl rfl rfl rfl rfl [(4, _)] (fun h => And.intro (.inl rfl) (trivial)) (fun h => (OpJ.fieldAddr rfl rfl fd46_3 rfl)) ?_
    refine AQuiet.guard 49 47 rfl rfl rfl rfl rfl rfl rfl [(48, _)] (fun h => And.intro (.inr ⟨_, rfl, h⟩) (trivial)) (fun h => (OpJ.load (v := .p (.agg (gt Rpt.d l i).wear.cells)) rfl rfl ty44 rfl)) ?_
    refine AQuiet.guard 50 47 rfl rfl rfl rfl rfl rfl rfl [(49, _)] (fun h => And.intro (.inr ⟨_, rfl, h⟩) (trivial)) (fun h => (OpJ.callP (rspan_ok _ _ _) rfl rfl rfl rfl rf72)) ?_
    refine AQuiet.guard 51 47 rfl rfl rfl rfl rfl rfl rfl [(50, _)] (fun h => And.intro (.inr ⟨_, rfl, h⟩) (trivial)) (fun h => (OpJ.not_ rfl rfl)) ?_
    refine AQuiet.cons 52 rfl rfl rfl (OpJ.or_ rfl rfl rfl ?_) ?_
    · first | (intro h; rw [h]; rfl) | (intro h; simp_all)
    refine AQuiet.nil ?_
    refine AList.nil ?_
    refine AWp.cond _ rfl (fun hc1 => ?_) (fun hc1 => ?_)
    · skip
      have hno : riseB Rpt.batch rptB (lastR Rpt.batch Rpt.d l i) (l.drop i) = false := rp_c1 hk0 hrc hc1
      refine AWp.seq ?_
      refine AWp.region ?_
      refine AList.c 2 rfl rfl rfl (OpJ.assign rfl rfl) ?_
      refine AList.nil ?_
      refine AWp.ret ?_
      refine Fin.oneE rfl rfl ?_
      show _ = PV.bool (riseB Rpt.batch rptB (-1) l)
      rw [hg2, hno]
    · skip
      obtain ⟨hin1, hin2, hin3, hin4⟩ := rp_c1n hrc hc1
      refine AWp.skip ?_
      refine AWp.seq ?_
      refine AWp.region ?_
      refine AList.c 5 rfl rfl rfl (OpJ.assign rfl rfl) ?_
      refine AList.nil ?_
      refine AWp.block ?_
      refine AWp.loopHL [0, 3, 4, 6, 7, 8, 9, 10, 11, 12, 13, 14, 15, 16, 17, 18, 19, 20, 21, 22, 23, 24, 25, 26, 27, 28, 29, 30, 31, 32, 33, 34, 35, 36, 37, 38, 39, 40, 41, 42, 43, 44, 45, 46, 47, 48, 49, 50, 51, 52] (fun g => [(5, .p (.int .i64 ((g : Nat) : Int)))]) (fun g => [.cells ((gt Rpt.d l i).cells.map .p) 46]) (fun g => g ≤ (gt Rpt.d l i).strokes.length ∧ ((gt Rpt.d l i).strokes.take g).any stkN = false) (fun g => (gt Rpt.d l i).strokes.length - g) 0 ⟨Nat.zero_le _, rfl⟩ (To.sub (Sub.chk (Sub.cons rfl (Sub.nil)))) (fun k ⟨hk1, hk3⟩ => ?_)
      refine AWp.seq ?_
      refine AWp.seq ?_
      refine AWp.region ?_
      refine AList.c 53 rfl rfl rfl (OpJ.move rfl rfl) ?_
      refine AList.c 54 rfl rfl rfl (OpJ.fieldAddr rfl rfl fd46_1 rfl) ?_
      refine AList.c 55 rfl rfl rfl (OpJ.load (v := .p (stksV (gt Rpt.d l i).strokes)) rfl rfl ty42 rfl) ?_
      refine AList.c 56 rfl rfl rfl (OpJ.lenSlice rfl rfl sl42 rfl) ?_
      refine AList.c 57 rfl rfl rfl (OpJ.lss rfl rfl rfl) ?_
      refine AList.nil ?_
      refine AWp.cond _ rfl (fun hc2 => ?_) (fun hc2 => ?_)
      · skip
        have hk2 : k < (gt Rpt.d l i).strokes.length := by have h := of_decide_eq_true hc2; omega
        refine AWp.skip ?_
        refine AWp.seq ?_
        refine AWp.block ?_
        refine AWp.seq ?_
        refine AWp.region ?_
        refine AList.c 60 rfl rfl rfl (OpJ.fieldAddr rfl rfl fd46_1 rfl) ?_
        refine AList.c 61 rfl rfl rfl (OpJ.load (v := .p (stksV (gt Rpt.d l i).strokes)) rfl rfl ty42 rfl) ?_
        refine AList.c 62 rfl rfl rfl (OpJ.move rfl rfl) ?_
        refine AList.c 63 rfl rfl rfl (OpJ.indexG (g := gt Stk.d (gt Rpt.d l i).strokes) (gt_get _) rfl rfl rfl sl42 el42 rfl (fun _ => rfl) (by decide) hk2) ?_
        refine AList.c 64 rfl rfl rfl (OpJ.fieldAddr rfl rfl fd63_0 rfl) ?_
        refine AList.c 65 rfl rfl rfl (OpJ.load (v := .p (.agg (gt Stk.d (gt Rpt.d l i).strokes k).read.cells)) rfl rfl ty44 rfl) ?_
        refine AList.c 66 rfl rfl rfl (OpJ.callP (rspan_ok _ _ _) rfl rfl rfl rfl rf72) ?_
        refine AList.c 67 rfl rfl rfl (OpJ.not_ rfl rfl) ?_
        refine AList.c 68 rfl rfl rfl (OpJ.move rfl rfl) ?_
        refine AList.g 69 68 rfl rfl rfl rfl rfl rfl rfl [(4, _)] (fun h => And.intro (.inl rfl) (trivial)) (fun h => (OpJ.fieldAddr rfl rfl fd46_1 rfl)) ?_
        refine AList.g 70 68 rfl rfl rfl rfl rfl rfl rfl [(69, _)] (fun h => And.intro (.inr ⟨_, rfl, h⟩) (trivial)) (fun h => (OpJ.load (v := .p (stksV (gt Rpt.d l i).strokes)) rfl rfl ty42 rfl)) ?_
        refine AList.g 71 68 rfl rfl rfl rfl rfl rfl rfl [(5, _)] (fun h => And.intro (.inl rfl) (trivial)) (fun h => (OpJ.move rfl rfl)) ?_
        refine AList.g 72 68 rfl rfl rfl rfl rfl rfl rfl [(70, _), (71, _)] (fun h => And.intro (.inr ⟨_, rfl, h⟩) (And.intro (.inr ⟨_, rfl, h⟩) (trivial))) (fun h => (OpJ.indexG (g := gt Stk.d (gt Rpt.d l i).strokes) (gt_get _) rfl rfl rfl sl42 el42 rfl (fun _ => rfl) (by decide) hk2)) ?_
        refine AList.g 73 68 rfl rfl rfl rfl rfl rfl rfl [(72, _)] (fun h => And.intro (.inr ⟨_, rfl, h⟩) (trivial)) (fun h => (OpJ.fieldAddr rfl rfl fd63_1 rfl)) ?_
        refine AList.g 74 68 rfl rfl rfl rfl rfl rfl rfl [(73, _)] (fun h => And.intro (.inr ⟨_, rfl, h⟩) (trivial)) (fun h => (OpJ.load (v := .p (.agg (gt Stk.d (gt Rpt.d l i).strokes k).paper.cells)) rfl rfl ty44 rfl)) ?_
        refine AList.g 75 68 rfl rfl rfl rfl rfl rfl rfl [(74, _)] (fun h => And.intro (.inr ⟨_, rfl, h⟩) (trivial)) (fun h => (OpJ.callP (rspan_ok _ _ _) rfl rfl rfl rfl rf72)) ?_
        refine AList.g 76 68 rfl rfl rfl rfl rfl rfl rfl [(75, _)] (fun h => And.intro (.inr ⟨_, rfl, h⟩) (trivial)) (fun h => (OpJ.not_ rfl rfl)) ?_
        refine AList.c 77 rfl rfl rfl (OpJ.or_ rfl rfl rfl ?_) ?_
        · first | (intro h; rw [h]; rfl) | (intro h; simp_all)
        refine AList.nil ?_
        refine AWp.cond _ rfl (fun hc3 => ?_) (fun hc3 => ?_)
        · skip
          have hany : (gt Rpt.d l i).strokes.any stkN = true := any_gt Stk.d stkN hk2 hc3
          refine AWp.seq ?_
          refine AWp.region ?_
          refine AList.c 2 rfl rfl rfl (OpJ.assign rfl rfl) ?_
          refine AList.nil ?_
          refine AWp.ret ?_
          refine Fin.oneE rfl rfl ?_
          show _ = PV.bool (riseB Rpt.batch rptB (-1) l)
          rw [hg2, rise_step Rpt.batch rptB _ Rpt.d l i hk0]
          have hpk : rptB (gt Rpt.d l i) = false := by unfold rptB; rw [hany]; simp
          rw [hpk, Bool.and_false, Bool.false_and]
        · skip
          refine AWp.skip ?_
          refine AWp.region ?_
          refine AList.c 58 rfl rfl rfl (OpJ.move rfl rfl) ?_
          refine AList.c 59 rfl rfl rfl (OpJ.add rfl rfl rfl (i64ok ?_)) ?_
          · omega
          refine AList.c 5 rfl rfl rfl (OpJ.assign rfl rfl) ?_
          refine AList.nil ?_
          refine ⟨k + 1, ?_, ?_, ?_⟩
          · exact ⟨hk2, any_take Stk.d stkN hk2 hk3 hc3⟩
          · omega
          exact To.done [0] rfl (by repeat (first | exact Sub.nil | refine Sub.cons rfl ?_)) rfl
      · skip
        have hk4 : (gt Rpt.d l i).strokes.any stkN = false := by have h : k = (gt Rpt.d l i).strokes.length := (by have h := of_decide_eq_false hc2; omega); rw [h, List.take_length] at hk3; exact hk3
        refine AWp.exit ?_
        refine AWp.region ?_
        refine AList.c 10 rfl rfl rfl (OpJ.move rfl rfl) ?_
        refine AList.c 11 rfl rfl rfl (OpJ.add rfl rfl rfl (i64ok ?_)) ?_
        · omega
        refine AList.c 3 rfl rfl rfl (OpJ.assign rfl rfl) ?_
        refine AList.nil ?_
        refine ⟨i + 1, ?_, ?_, ?_⟩
        · have hpk : rptB (gt Rpt.d l i) = true := by unfold rptB; rw [hk4, hin3, hin4, decide_eq_true (by omega)]; rfl
          exact ⟨hk0, by rw [hg2, rise_step Rpt.batch rptB _ Rpt.d l i hk0, hin1, hpk]; rfl, by have := inB_some hin1; show -1 ≤ (gt Rpt.d l i).batch; omega⟩
        · omega
        exact To.done [] rfl (by repeat (first | exact Sub.nil | refine Sub.cons rfl ?_)) rfl
  · skip
    have hi : i = l.length := by have h := of_decide_eq_false hc0; omega
    refine AWp.exit ?_
    refine AWp.seq ?_
    refine AWp.region ?_
    refine AList.c 2 rfl rfl rfl (OpJ.assign rfl rfl) ?_
    refine AList.nil ?_
    refine AWp.ret ?_
    refine Fin.oneE rfl rfl ?_
    show _ = PV.bool (riseB Rpt.batch rptB (-1) l)
    rw [hg2, hi, List.drop_length]
    rfl
theorem spanText_ok (s : Spn) (h : SpnR s) : Pure Tryz.prog 73 [.agg s.cells] (.str (sB (spnT s))) := by
  obtain ⟨h1, h2, h3, h4⟩ := h
  have t1 := itoa_len h1 (show s.lo ≤ 1099511627776 by omega)
  have t2 := itoa_len h3 (show s.hi ≤ 1099511627776 by omega)
  refine Pure.start (N := 19) Tryz.func73 rfl rfl (Nat.le_of_ble_eq_true rfl) ?_
  refine AWp.seq ?_
  refine AWp.region ?_
  refine AList.c 1 rfl rfl rfl (OpJ.boxImm rfl rfl rfl) ?_
  refine AList.c 2 rfl rfl rfl (OpJ.assign rfl rfl) ?_
  refine AList.nil ?_
  refine AWp.seq ?_
  refine AWp.seq ?_
  refine AWp.region ?_
  refine AList.c 3 rfl rfl rfl (OpJ.fieldAddr rfl rfl fd44_0 rfl) ?_
  refine AList.c 4 rfl rfl rfl (OpJ.load (v := .p (.int .i64 s.lo)) rfl rfl ty3 rfl) ?_
  refine AList.c 5 rfl rfl rfl (OpJ.fieldAddr rfl rfl fd44_1 rfl) ?_
  refine AList.c 6 rfl rfl rfl (OpJ.load (v := .p (.int .i64 s.hi)) rfl rfl ty3 rfl) ?_
  refine AList.c 7 rfl rfl rfl (OpJ.eql rfl rfl rfl) ?_
  refine AList.nil ?_
  refine AWp.cond _ rfl (fun hc0 => ?_) (fun hc0 => ?_)
  · skip
    have he : s.hi = s.lo := by have h := of_decide_eq_true hc0; exact h.symm
    refine AWp.seq ?_
    refine AWp.region ?_
    refine AList.c 8 rfl rfl rfl (OpJ.fieldAddr rfl rfl fd44_0 rfl) ?_
    refine AList.c 9 rfl rfl rfl (OpJ.load (v := .p (.int .i64 s.lo)) rfl rfl ty3 rfl) ?_
    refine AList.c 10 rfl rfl rfl (OpJ.callP (rtext_ok _ h1 (by omega)) rfl rfl rfl rfl rf43) ?_
    refine AList.c 2 rfl rfl rfl (OpJ.assign rfl rfl) ?_
    refine AList.nil ?_
    refine AWp.ret ?_
    refine Fin.oneE rfl rfl ?_
    rw [spnT_eq, if_pos he, List.append_nil]
  · skip
    have he : ¬ s.hi = s.lo := by have h := of_decide_eq_false hc0; exact fun e => h e.symm
    refine AWp.skip ?_
    refine AWp.seq ?_
    refine AWp.regionDraw 9 mixed (by kernel_rfl) (by decide) ?_
    refine AQuiet.cons 11 rfl rfl rfl (OpJ.fieldAddr rfl rfl fd44_0 rfl) ?_
    refine AQuiet.cons 12 rfl rfl rfl (OpJ.load (v := .p (.int .i64 s.lo)) rfl rfl ty3 rfl) ?_
    refine AQuiet.cons 13 rfl rfl rfl (OpJ.callP (rtext_ok _ h1 (by omega)) rfl rfl rfl rfl rf43) ?_
    refine AQuiet.cons 14 rfl rfl rfl (OpJ.strAdd _ [46, 46] rfl rfl rfl ?_) ?_
    · show _ + 2 < _; omega
    refine AQuiet.cons 15 rfl rfl rfl (OpJ.fieldAddr rfl rfl fd44_1 rfl) ?_
    refine AQuiet.cons 16 rfl rfl rfl (OpJ.load (v := .p (.int .i64 s.hi)) rfl rfl ty3 rfl) ?_
    refine AQuiet.cons 17 rfl rfl rfl (OpJ.callP (rtext_ok _ h3 (by omega)) rfl rfl rfl rfl rf43) ?_
    refine AQuiet.cons 18 rfl rfl rfl (OpJ.strAdd _ _ rfl rfl rfl ?_) ?_
    · rw [List.length_append]; show _ + 2 + _ < _; omega
    refine AQuiet.cons 2 rfl rfl rfl (OpJ.assign rfl rfl) ?_
    refine AQuiet.nil ?_
    refine AList.nil ?_
    refine AWp.ret ?_
    refine Fin.oneE rfl rfl ?_
    rw [spnT_eq, if_neg he, List.append_assoc]
theorem reportText_ok (r : Rpt) (h : rptB r = true) (h0 : 0 ≤ r.batch) (h1 : r.batch ≤ 1000000) : Pure Tryz.prog 30 [.agg r.cells] (.str (sB (rptT r))) := by
  obtain ⟨_, q2, q3, q4⟩ := rptB_R h h0 h1
  have q5 := (rptB_some h).1
  have hT := rptT_len h h0 h1
  have hH := rptH_l r
  have hHl := congrArg List.length hH
  have hT0 : (rptH r ++ r.strokes.flatMap stkT).length ≤ 1110 := hT
  rw [List.length_append] at hT0
  have z1 := spnT_len q2
  have z2 := spnT_len q3
  have z3 := itoa_len h0 (show r.batch ≤ 1099511627776 by omega)
  refine Pure.start (N := 48) Tryz.func30 rfl rfl (Nat.le_of_ble_eq_true rfl) ?_
  refine AWp.seq ?_
  refine AWp.region ?_
  refine AList.c 1 rfl rfl rfl (OpJ.boxImm rfl rfl rfl) ?_
  refine AList.c 2 rfl rfl rfl (OpJ.assign rfl rfl) ?_
  refine AList.nil ?_
  refine AWp.seq ?_
  refine AWp.regionDraw 16 mixed (by kernel_rfl) (by decide) ?_
  refine AQuiet.cons 5 rfl rfl rfl (OpJ.fieldAddr rfl rfl fd46_0 rfl) ?_
  refine AQuiet.cons 6 rfl rfl rfl (OpJ.load (v := .p (.int .i64 r.batch)) rfl rfl ty3 rfl) ?_
  refine AQuiet.cons 7 rfl rfl rfl (OpJ.callP (rtext_ok _ h0 (by omega)) rfl rfl rfl rfl rf43) ?_
  refine AQuiet.cons 8 rfl rfl rfl (OpJ.strAdd batT _ rfl rfl rfl ?_) ?_
  · show 6 + _ < _; omega
  refine AQuiet.cons 9 rfl rfl rfl (OpJ.strAdd _ strT rfl rfl rfl ?_) ?_
  · rw [List.length_append]; show 6 + _ + 10 < _; omega
  refine AQuiet.cons 10 rfl rfl rfl (OpJ.fieldAddr rfl rfl fd46_2 rfl) ?_
  refine AQuiet.cons 11 rfl rfl rfl (OpJ.load (v := .p (.agg r.strength.cells)) rfl rfl ty44 rfl) ?_
  refine AQuiet.cons 12 rfl rfl rfl (OpJ.callP (spanText_ok _ q2) rfl rfl rfl rfl rf73) ?_
  refine AQuiet.cons 13 rfl rfl rfl (OpJ.strAdd _ _ rfl rfl rfl ?_) ?_
  · simp only [List.length_append]; show 6 + _ + 10 + _ < _; omega
  refine AQuiet.cons 14 rfl rfl rfl (OpJ.strAdd _ weaT rfl rfl rfl ?_) ?_
  · simp only [List.length_append]; show 6 + _ + 10 + _ + 6 < _; omega
  refine AQuiet.cons 15 rfl rfl rfl (OpJ.fieldAddr rfl rfl fd46_3 rfl) ?_
  refine AQuiet.cons 16 rfl rfl rfl (OpJ.load (v := .p (.agg r.wear.cells)) rfl rfl ty44 rfl) ?_
  refine AQuiet.cons 17 rfl rfl rfl (OpJ.callP (spanText_ok _ q3) rfl rfl rfl rfl rf73) ?_
  refine AQuiet.cons 18 rfl rfl rfl (OpJ.strAdd _ _ rfl rfl rfl ?_) ?_
  · simp only [List.length_append]; show 6 + _ + 10 + _ + 6 + _ < _; omega
  refine AQuiet.cons 19 rfl rfl rfl (OpJ.strAdd _ [10] rfl rfl rfl ?_) ?_
  · simp only [List.length_append]; show 6 + _ + 10 + _ + 6 + _ + 1 < _; omega
  refine AQuiet.cons 3 rfl rfl rfl (OpJ.assign rfl rfl) ?_
  refine AQuiet.nil ?_
  refine AList.nil ?_
  refine AWp.seq ?_
  refine AWp.seq ?_
  refine AWp.region ?_
  refine AList.c 4 rfl rfl rfl (OpJ.assign rfl rfl) ?_
  refine AList.nil ?_
  refine AWp.block ?_
  rw [hH]
  refine AWp.loopHL [1, 2, 47] (fun g => [(4, .p (.int .i64 ((g : Nat) : Int))), (3, .p (.str (sB (rptH r ++ (r.strokes.take g).flatMap stkT))))]) (fun g => []) (fun g => g ≤ r.strokes.length) (fun g => r.strokes.length - g) 0 (Nat.zero_le _) (To.sub (Sub.chk (Sub.cons rfl (Sub.cons (by rw [List.take_zero, show List.flatMap stkT [] = [] from rfl, List.append_nil]; rfl) Sub.nil)))) (fun k hg => ?_)
  refine AWp.seq ?_
  refine AWp.seq ?_
  refine AWp.region ?_
  refine AList.c 20 rfl rfl rfl (OpJ.move rfl rfl) ?_
  refine AList.c 21 rfl rfl rfl (OpJ.fieldAddr rfl rfl fd46_1 rfl) ?_
  refine AList.c 22 rfl rfl rfl (OpJ.load (v := .p (stksV r.strokes)) rfl rfl ty42 rfl) ?_
  refine AList.c 23 rfl rfl rfl (OpJ.lenSlice rfl rfl sl42 rfl) ?_
  refine AList.c 24 rfl rfl rfl (OpJ.lss rfl rfl rfl) ?_
  refine AList.nil ?_
  refine AWp.cond _ rfl (fun hc0 => ?_) (fun hc0 => ?_)
  · skip
    have hk0 : k < r.strokes.length := by have h := of_decide_eq_true hc0; omega
    obtain ⟨u1, u2⟩ := q4 _ (gt_mem Stk.d hk0)
    have y1 := spnT_len u1
    have y2 := spnT_len u2
    have hst := gt_step Stk.d stkT r.strokes k hk0
    have htk := take_len stkT r.strokes k
    have hl := stkT_l (rptH r ++ (r.strokes.take k).flatMap stkT) (gt Stk.d r.strokes k)
    refine AWp.skip ?_
    refine AWp.seq ?_
    refine AWp.block ?_
    refine AWp.regionDraw 21 mixed (by kernel_rfl) (by decide) ?_
    refine AQuiet.cons 27 rfl rfl rfl (OpJ.move rfl rfl) ?_
    refine AQuiet.cons 28 rfl rfl rfl (OpJ.strAdd _ skT rfl rfl rfl ?_) ?_
    · rw [List.length_append]; show _ + _ + 7 < _; omega
    refine AQuiet.cons 29 rfl rfl rfl (OpJ.fieldAddr rfl rfl fd46_1 rfl) ?_
    refine AQuiet.cons 30 rfl rfl rfl (OpJ.load (v := .p (stksV r.strokes)) rfl rfl ty42 rfl) ?_
    refine AQuiet.cons 31 rfl rfl rfl (OpJ.move rfl rfl) ?_
    refine AQuiet.cons 32 rfl rfl rfl (OpJ.indexG (g := gt Stk.d r.strokes) (gt_get _) rfl rfl rfl sl42 el42 rfl (fun _ => rfl) (by decide) hk0) ?_
    refine AQuiet.cons 33 rfl rfl rfl (OpJ.fieldAddr rfl rfl fd63_0 rfl) ?_
    refine AQuiet.cons 34 rfl rfl rfl (OpJ.load (v := .p (.agg (gt Stk.d r.strokes k).read.cells)) rfl rfl ty44 rfl) ?_
    refine AQuiet.cons 35 rfl rfl rfl (OpJ.callP (spanText_ok _ u1) rfl rfl rfl rfl rf73) ?_
    refine AQuiet.cons 36 rfl rfl rfl (OpJ.strAdd _ _ rfl rfl rfl ?_) ?_
    · simp only [List.length_append]; show _ + _ + 7 + _ < _; omega
    refine AQuiet.cons 37 rfl rfl rfl (OpJ.strAdd _ [32, 111, 110, 32] rfl rfl rfl ?_) ?_
    · simp only [List.length_append]; show _ + _ + 7 + _ + 4 < _; omega
    refine AQuiet.cons 38 rfl rfl rfl (OpJ.fieldAddr rfl rfl fd46_1 rfl) ?_
    refine AQuiet.cons 39 rfl rfl rfl (OpJ.load (v := .p (stksV r.strokes)) rfl rfl ty42 rfl) ?_
    refine AQuiet.cons 40 rfl rfl rfl (OpJ.move rfl rfl) ?_
    refine AQuiet.cons 41 rfl rfl rfl (OpJ.indexG (g := gt Stk.d r.strokes) (gt_get _) rfl rfl rfl sl42 el42 rfl (fun _ => rfl) (by decide) hk0) ?_
    refine AQuiet.cons 42 rfl rfl rfl (OpJ.fieldAddr rfl rfl fd63_1 rfl) ?_
    refine AQuiet.cons 43 rfl rfl rfl (OpJ.load (v := .p (.agg (gt Stk.d r.strokes k).paper.cells)) rfl rfl ty44 rfl) ?_
    refine AQuiet.cons 44 rfl rfl rfl (OpJ.callP (spanText_ok _ u2) rfl rfl rfl rfl rf73) ?_
    refine AQuiet.cons 45 rfl rfl rfl (OpJ.strAdd _ _ rfl rfl rfl ?_) ?_
    · simp only [List.length_append]; show _ + _ + 7 + _ + 4 + _ < _; omega
    refine AQuiet.cons 46 rfl rfl rfl (OpJ.strAdd _ [10] rfl rfl rfl ?_) ?_
    · simp only [List.length_append]; show _ + _ + 7 + _ + 4 + _ + 1 < _; omega
    refine AQuiet.cons 3 rfl rfl rfl (OpJ.assign rfl rfl) ?_
    refine AQuiet.nil ?_
    refine AList.nil ?_
    refine AWp.region ?_
    refine AList.c 25 rfl rfl rfl (OpJ.move rfl rfl) ?_
    refine AList.c 26 rfl rfl rfl (OpJ.add rfl rfl rfl (i64ok ?_)) ?_
    · omega
    refine AList.c 4 rfl rfl rfl (OpJ.assign rfl rfl) ?_
    refine AList.nil ?_
    refine ⟨k + 1, ?_, ?_, ?_⟩
    · exact hk0
    · omega
    rw [hl, List.append_assoc, hst]
    exact To.done [] rfl (by repeat (first | exact Sub.nil | refine Sub.cons rfl ?_)) rfl
  · skip
    have hk : k = r.strokes.length := by have h := of_decide_eq_false hc0; omega
    subst hk
    refine AWp.exit ?_
    refine AWp.seq ?_
    refine AWp.region ?_
    refine AList.c 47 rfl rfl rfl (OpJ.move rfl rfl) ?_
    refine AList.c 2 rfl rfl rfl (OpJ.assign rfl rfl) ?_
    refine AList.nil ?_
    refine AWp.ret ?_
    refine Fin.oneE rfl rfl ?_
    rw [List.take_length]
    rfl
theorem rwriteR_ok (l : List Rpt) (hl : l.length ≤ bigN) (hs : ∀ r ∈ l, r.strokes.length ≤ bigN) : Pure Tryz.prog 8 [rptsV l] (.tuple [.str (sB (wrR l).1), .int .i64 (wrR l).2]) := by
  have hl2 := hl
  unfold bigN at hl2
  refine Pure.start (N := 26) Tryz.func8 rfl rfl (Nat.le_of_ble_eq_true rfl) ?_
  refine AWp.seq ?_
  refine AWp.region ?_
  refine AList.c 2 rfl rfl rfl (OpJ.assign rfl rfl) ?_
  refine AList.c 3 rfl rfl rfl (OpJ.assign rfl rfl) ?_
  refine AList.nil ?_
  refine AWp.seq ?_
  refine AWp.seq ?_
  refine AWp.region ?_
  refine AList.c 6 rfl rfl rfl (OpJ.move rfl rfl) ?_
  refine AList.c 7 rfl rfl rfl (OpJ.lenSlice rfl rfl sl22 rfl) ?_
  refine AList.c 8 rfl rfl rfl (OpJ.gtr rfl rfl rfl) ?_
  refine AList.nil ?_
  refine AWp.cond _ rfl (fun hc0 => ?_) (fun hc0 => ?_)
  · skip
    have h30 : 20 < l.length := by have h := of_decide_eq_true hc0; omega
    refine AWp.seq ?_
    refine AWp.region ?_
    refine AList.c 2 rfl rfl rfl (OpJ.assign rfl rfl) ?_
    refine AList.c 3 rfl rfl rfl (OpJ.assign rfl rfl) ?_
    refine AList.nil ?_
    refine AWp.ret ?_
    refine Fin.manyE (xs := [.str (sB []), .int .i64 3]) rfl ⟨_, _, rfl, rfl, ⟨_, _, rfl, rfl, rfl⟩⟩ rfl ?_
    rw [wrR_3 h30]
  · skip
    have h30 : l.length ≤ 20 := by have h := of_decide_eq_false hc0; omega
    refine AWp.skip ?_
    refine AWp.seq ?_
    refine AWp.seq ?_
    refine AWp.region ?_
    refine AList.c 9 rfl rfl rfl (OpJ.move rfl rfl) ?_
    refine AList.c 10 rfl rfl rfl (OpJ.callP (rreports_ok l hl hs) rfl rfl rfl rfl rf29) ?_
    refine AList.c 11 rfl rfl rfl (OpJ.not_ rfl rfl) ?_
    refine AList.nil ?_
    refine AWp.cond _ rfl (fun hc1 => ?_) (fun hc1 => ?_)
    · skip
      have hv : rptsB l = false := by simpa using hc1
      refine AWp.seq ?_
      refine AWp.region ?_
      refine AList.c 2 rfl rfl rfl (OpJ.assign rfl rfl) ?_
      refine AList.c 3 rfl rfl rfl (OpJ.assign rfl rfl) ?_
      refine AList.nil ?_
      refine AWp.ret ?_
      refine Fin.manyE (xs := [.str (sB []), .int .i64 1]) rfl ⟨_, _, rfl, rfl, ⟨_, _, rfl, rfl, rfl⟩⟩ rfl ?_
      rw [wrR_1 h30 hv]
    · skip
      have hv : rptsB l = true := by simpa using hc1
      have hB : (l.flatMap rptT).length ≤ 22200 := rptsT_len hv h30
      have hall := rise_all hv (by decide)
      refine AWp.skip ?_
      refine AWp.seq ?_
      refine AWp.region ?_
      refine AList.c 4 rfl rfl rfl (OpJ.assign rfl rfl) ?_
      refine AList.nil ?_
      refine AWp.seq ?_
      refine AWp.seq ?_
      refine AWp.region ?_
      refine AList.c 5 rfl rfl rfl (OpJ.assign rfl rfl) ?_
      refine AList.nil ?_
      refine AWp.block ?_
      refine AWp.loopHL [0, 2, 3, 25] (fun g => [(5, .p (.int .i64 ((g : Nat) : Int))), (4, .p (.str (sB ((l.take g).flatMap rptT))))]) (fun g => []) (fun g => g ≤ l.length) (fun g => l.length - g) 0 (Nat.zero_le _) (To.sub (Sub.chk (Sub.cons rfl (Sub.cons rfl (Sub.nil))))) (fun i hg => ?_)
      refine AWp.seq ?_
      refine AWp.seq ?_
      refine AWp.region ?_
      refine AList.c 12 rfl rfl rfl (OpJ.move rfl rfl) ?_
      refine AList.c 13 rfl rfl rfl (OpJ.move rfl rfl) ?_
      refine AList.c 14 rfl rfl rfl (OpJ.lenSlice rfl rfl sl22 rfl) ?_
      refine AList.c 15 rfl rfl rfl (OpJ.lss rfl rfl rfl) ?_
      refine AList.nil ?_
      refine AWp.cond _ rfl (fun hc2 => ?_) (fun hc2 => ?_)
      · skip
        have hk0 : i < l.length := by have h := of_decide_eq_true hc2; omega
        obtain ⟨_, hn0, hn1, hpb⟩ := hall _ (gt_mem Rpt.d hk0)
        have hst := gt_step Rpt.d rptT l i hk0
        have hbi := txt_le rptT l i hB
        have hrl := rptT_len hpb hn0 hn1
        refine AWp.skip ?_
        refine AWp.seq ?_
        refine AWp.block ?_
        refine AWp.region ?_
        refine AList.c 18 rfl rfl rfl (OpJ.move rfl rfl) ?_
        refine AList.c 19 rfl rfl rfl (OpJ.move rfl rfl) ?_
        refine AList.c 20 rfl rfl rfl (OpJ.move rfl rfl) ?_
        refine AList.c 21 rfl rfl rfl (OpJ.indexG (g := gt Rpt.d l) (gt_get _) rfl rfl rfl sl22 el22 rfl (fun _ => rfl) (by decide) hk0) ?_
        refine AList.c 22 rfl rfl rfl (OpJ.load (v := .p (.agg (gt Rpt.d l i).cells)) rfl rfl ty46 rfl) ?_
        refine AList.c 23 rfl rfl rfl (OpJ.callP (reportText_ok _ hpb hn0 hn1) rfl rfl rfl rfl rf30) ?_
        refine AList.c 24 rfl rfl rfl (OpJ.strAdd _ _ rfl rfl rfl ?_) ?_
        · omega
        refine AList.c 4 rfl rfl rfl (OpJ.assign rfl rfl) ?_
        refine AList.nil ?_
        refine AWp.region ?_
        refine AList.c 16 rfl rfl rfl (OpJ.move rfl rfl) ?_
        refine AList.c 17 rfl rfl rfl (OpJ.add rfl rfl rfl (i64ok ?_)) ?_
        · omega
        refine AList.c 5 rfl rfl rfl (OpJ.assign rfl rfl) ?_
        refine AList.nil ?_
        refine ⟨i + 1, ?_, ?_, ?_⟩
        · exact hk0
        · omega
        rw [← hst]
        exact To.done [] rfl (by repeat (first | exact Sub.nil | refine Sub.cons rfl ?_)) rfl
      · skip
        have hi : i = l.length := by have h := of_decide_eq_false hc2; omega
        subst hi
        refine AWp.exit ?_
        refine AWp.seq ?_
        refine AWp.region ?_
        refine AList.c 25 rfl rfl rfl (OpJ.move rfl rfl) ?_
        refine AList.c 2 rfl rfl rfl (OpJ.assign rfl rfl) ?_
        refine AList.c 3 rfl rfl rfl (OpJ.assign rfl rfl) ?_
        refine AList.nil ?_
        refine AWp.ret ?_
        refine Fin.manyE (xs := [.str (sB ((l.take l.length).flatMap rptT)), .int .i64 0]) rfl ⟨_, _, rfl, rfl, ⟨_, _, rfl, rfl, rfl⟩⟩ rfl ?_
        rw [wrR_of h30 hv, List.take_length]
        rfl
end Go.Proofs.YtcmkdegeljjalaaGreatDoor
end

section
set_option linter.unusedVariables false
set_option maxRecDepth 100000
set_option maxHeartbeats 4000000
set_option linter.unusedSimpArgs false
namespace Go.Proofs.YtcmkdegeljjalaaGreatDoor
open Go.AF
theorem rcards_ok (l : List Crd) (hl : l.length ≤ bigN) : Pure Tryz.prog 37 [crdsV l] (.bool (crdsB l)) := by
  have hl2 := hl
  unfold bigN at hl2
  refine Pure.start (N := 58) Tryz.func37 rfl rfl (Nat.le_of_ble_eq_true rfl) ?_
  refine AWp.seq ?_
  refine AWp.region ?_
  refine AList.c 2 rfl rfl rfl (OpJ.assign rfl rfl) ?_
  refine AList.nil ?_
  refine AWp.seq ?_
  refine AWp.seq ?_
  refine AWp.region ?_
  refine AList.c 3 rfl rfl rfl (OpJ.assign rfl rfl) ?_
  refine AList.nil ?_
  refine AWp.block ?_
  refine AWp.loopHL [0] (fun g => [(3, .p (.int .i64 ((g : Nat) : Int)))]) (fun g => []) (fun g => g ≤ l.length ∧ riseB Crd.number crdB (-1) l = riseB Crd.number crdB (lastR Crd.number Crd.d l g) (l.drop g) ∧ -1 ≤ lastR Crd.number Crd.d l g) (fun g => l.length - g) 0 ⟨Nat.zero_le _, rfl, (by show (-1 : Int) ≤ -1; decide)⟩ (To.sub (Sub.chk (Sub.cons rfl (Sub.nil)))) (fun i ⟨hg1, hg2, hg3⟩ => ?_)
  refine AWp.seq ?_
  refine AWp.seq ?_
  refine AWp.region ?_
  refine AList.c 5 rfl rfl rfl (OpJ.move rfl rfl) ?_
  refine AList.c 6 rfl rfl rfl (OpJ.move rfl rfl) ?_
  refine AList.c 7 rfl rfl rfl (OpJ.lenSlice rfl rfl sl23 rfl) ?_
  refine AList.c 8 rfl rfl rfl (OpJ.lss rfl rfl rfl) ?_
  refine AList.nil ?_
  refine AWp.cond _ rfl (fun hc0 => ?_) (fun hc0 => ?_)
  · skip
    have hk0 : i < l.length := by have h := of_decide_eq_true hc0; omega
    have hrc := ris_c (n := (gt Crd.d l i).number) (last_ge (num := Crd.number) (d := Crd.d) (l := l) (i := i)).1 (last_ge (num := Crd.number) (d := Crd.d) (l := l) (i := i)).2 hg3
    refine AWp.skip ?_
    refine AWp.seq ?_
    refine AWp.block ?_
    refine AWp.seq ?_
    refine AWp.region ?_
    refine AList.c 11 rfl rfl rfl (OpJ.move rfl rfl) ?_
    refine AList.c 12 rfl rfl rfl (OpJ.move rfl rfl) ?_
    refine AList.c 13 rfl rfl rfl (OpJ.indexG (g := gt Crd.d l) (gt_get _) rfl rfl rfl sl23 el23 rfl (fun _ => rfl) (by decide) hk0) ?_
    refine AList.c 14 rfl rfl rfl (OpJ.load (v := .p (.agg (gt Crd.d l i).cells)) rfl rfl ty75 rfl) ?_
    refine AList.c 4 rfl rfl rfl (OpJ.allocOwn rfl zr75 rfl) ?_
    refine AList.c0 rfl rfl (OpJ.store rfl rfl rfl rfl rfl ty75 rfl rfl) ?_
    refine AList.nil ?_
    refine AWp.seq ?_
    refine AWp.regionDraw 43 mixed (by kernel_rfl) (by decide) ?_
    refine AQuiet.cons 15 rfl rfl rfl (OpJ.fieldAddr rfl rfl fd75_0 rfl) ?_
    refine AQuiet.cons 16 rfl rfl rfl (OpJ.load (v := .p (.int .i64 (gt Crd.d l i).number)) rfl rfl ty3 rfl) ?_
    refine AQuiet.cons 17 rfl rfl rfl (OpJ.callP (rin_ok _ _ _) rfl rfl rfl rfl rf71) ?_
    refine AQuiet.cons 18 rfl rfl rfl (OpJ.not_ rfl rfl) ?_
    refine AQuiet.cons 19 rfl rfl rfl (OpJ.move rfl rfl) ?_
    refine AQuiet.guard 20 19 rfl rfl rfl rfl rfl rfl rfl [(3, _)] (fun h => And.intro (.inl rfl) (trivial)) (fun h => (OpJ.move rfl rfl)) ?_
    refine AQuiet.guard 21 19 rfl rfl rfl rfl rfl rfl rfl [(20, _)] (fun h => And.intro (.inr ⟨_, rfl, h⟩) (trivial)) (fun h => (OpJ.gtr rfl rfl rfl)) ?_
    refine AQuiet.guard 22 19 rfl rfl rfl rfl rfl rfl rfl [(21, _)] (fun h => And.intro (.inr ⟨_, rfl, h⟩) (trivial)) (fun h => (OpJ.move rfl rfl)) ?_
    refine AQuiet.guard 23 22 rfl rfl rfl rfl rfl rfl rfl [(4, _)] (fun h => And.intro (.inl rfl) (trivial)) (fun h => (OpJ.fieldAddr rfl rfl fd75_0 rfl)) ?_
    refine AQuiet.guard 24 22 rfl rfl rfl rfl rfl rfl rfl [(23, _)] (fun h => And.intro (.inr ⟨_, rfl, h⟩) (trivial)) (fun h => (OpJ.load (v := .p (.int .i64 (gt Crd.d l i).number)) rfl rfl ty3 rfl)) ?_
    refine AQuiet.guard 25 22 rfl rfl rfl rfl rfl rfl rfl [(0, _)] (fun h => And.intro (.inl rfl) (trivial)) (fun h => (OpJ.move rfl rfl)) ?_
    refine AQuiet.guard 26 22 rfl rfl rfl rfl rfl rfl rfl [(3, _)] (fun h => And.intro (.inl rfl) (trivial)) (fun h => (OpJ.move rfl rfl)) ?_
    refine AQuiet.guard 27 22 rfl rfl rfl rfl rfl rfl rfl [(26, _)] (fun h => And.intro (.inr ⟨_, rfl, h⟩) (trivial)) (fun h => (OpJ.sub_ (m := ((i - 1 : Nat) : Int)) rfl rfl rfl ((i64ok (by simp only [Bool.and_eq_true, beq_iff_eq, decide_eq_true_eq, decide_eq_false_iff_not] at h; omega)).trans (by simp only [Bool.and_eq_true, beq_iff_eq, decide_eq_true_eq, decide_eq_false_iff_not] at h; omega)))) ?_
    refine AQuiet.guard 28 22 rfl rfl rfl rfl rfl rfl rfl [(25, _), (27, _)] (fun h => And.intro (.inr ⟨_, rfl, h⟩) (And.intro (.inr ⟨_, rfl, h⟩) (trivial))) (fun h => (OpJ.indexG (g := gt Crd.d l) (k := (i - 1)) (gt_get _) rfl rfl rfl sl23 el23 rfl (fun _ => rfl) (by decide) (by omega))) ?_
    refine AQuiet.guard 29 22 rfl rfl rfl rfl rfl rfl rfl [(28, _)] (fun h => And.intro (.inr ⟨_, rfl, h⟩) (trivial)) (fun h => (OpJ.fieldAddr rfl rfl fd75_0 rfl)) ?_
    refine AQuiet.guard 30 22 rfl rfl rfl rfl rfl rfl rfl [(29, _)] (fun h => And.intro (.inr ⟨_, rfl, h⟩) (trivial)) (fun h => (OpJ.load (v := .p (.int .i64 (gt Crd.d l (i - 1)).number)) rfl rfl ty3 rfl)) ?_
    refine AQuiet.guard 31 22 rfl rfl rfl rfl rfl rfl rfl [(24, _), (30, _)] (fun h => And.intro (.inr ⟨_, rfl, h⟩) (And.intro (.inr ⟨_, rfl, h⟩) (trivial))) (fun h => (OpJ.leq rfl rfl rfl)) ?_
    refine AQuiet.guard 32 19 rfl rfl rfl rfl rfl rfl rfl [(22, _), (31, _)] (fun h => And.intro (.inr ⟨_, rfl, h⟩) (And.intro (.inl rfl) (trivial))) (fun h => (OpJ.and_ rfl rfl rfl ?_)) ?_
    · first | (intro h; rw [h]; rfl) | (intro h; simp_all)
    refine AQuiet.cons 33 rfl rfl rfl (OpJ.or_ rfl rfl rfl ?_) ?_
    · first | (intro h; rw [h]; rfl) | (intro h; simp_all)
    refine AQuiet.cons 34 rfl rfl rfl (OpJ.move rfl rfl) ?_
    refine AQuiet.guard 35 34 rfl rfl rfl rfl rfl rfl rfl [(4, _)] (fun h => And.intro (.inl rfl) (trivial)) (fun h => (OpJ.fieldAddr rfl rfl fd75_1 rfl)) ?_
    refine AQuiet.guard 36 34 rfl rfl rfl rfl rfl rfl rfl [(35, _)] (fun h => And.intro (.inr ⟨_, rfl, h⟩) (trivial)) (fun h => (OpJ.load (v := .p (.int .i64 (gt Crd.d l i).hour)) rfl rfl ty3 rfl)) ?_
    refine AQuiet.guard 37 34 rfl rfl rfl rfl rfl rfl rfl [(36, _)] (fun h => And.intro (.inr ⟨_, rfl, h⟩) (trivial)) (fun h => (OpJ.callP (rin_ok _ _ _) rfl rfl rfl rfl rf71)) ?_
    refine AQuiet.guard 38 34 rfl rfl rfl rfl rfl rfl rfl [(37, _)] (fun h => And.intro (.inr ⟨_, rfl, h⟩) (trivial)) (fun h => (OpJ.not_ rfl rfl)) ?_
    refine AQuiet.cons 39 rfl rfl rfl (OpJ.or_ rfl rfl rfl ?_) ?_
    · first | (intro h; rw [h]; rfl) | (intro h; simp_all)
    refine AQuiet.cons 40 rfl rfl rfl (OpJ.move rfl rfl) ?_
    refine AQuiet.guard 41 40 rfl rfl rfl rfl rfl rfl rfl [(4, _)] (fun h => And.intro (.inl rfl) (trivial)) (fun h => (OpJ.fieldAddr rfl rfl fd75_2 rfl)) ?_
    refine AQuiet.guard 42 40 rfl rfl rfl rfl rfl rfl rfl [(41, _)] (fun h => And.intro (.inr ⟨_, rfl, h⟩) (trivial)) (fun h => (OpJ.load (v := .p (.int .i64 (gt Crd.d l i).shade)) rfl rfl ty3 rfl)) ?_
    refine AQuiet.guard 43 40 rfl rfl rfl rfl rfl rfl rfl [(42, _)] (fun h => And.intro (.inr ⟨_, rfl, h⟩) (trivial)) (fun h => (OpJ.callP (rin_ok _ _ _) rfl rfl rfl rfl rf71)) ?_
    refine AQuiet.guard 44 40 rfl rfl rfl rfl rfl rfl rfl [(43, _)] (fun h => And.intro (.inr ⟨_, rfl, h⟩) (trivial)) (fun h => (OpJ.not_ rfl rfl)) ?_
    refine AQuiet.cons 45 rfl rfl rfl (OpJ.or_ rfl rfl rfl ?_) ?_
    · first | (intro h; rw [h]; rfl) | (intro h; simp_all)
    refine AQuiet.cons 46 rfl rfl rfl (OpJ.move rfl rfl) ?_
    refine AQuiet.guard 47 46 rfl rfl rfl rfl rfl rfl rfl [(4, _)] (fun h => And.intro (.inl rfl) (trivial)) (fun h => (OpJ.fieldAddr rfl rfl fd75_3 rfl)) ?_
    refine AQuiet.guard 48 46 rfl rfl rfl rfl rfl rfl rfl [(47, _)] (fun h => And.intro (.inr ⟨_, rfl, h⟩) (trivial)) (fun h => (OpJ.load (v := .p (.int .i64 (gt Crd.d l i).places)) rfl rfl ty3 rfl)) ?_
    refine AQuiet.guard 49 46 rfl rfl rfl rfl rfl rfl rfl [(48, _)] (fun h => And.intro (.inr ⟨_, rfl, h⟩) (trivial)) (fun h => (OpJ.callP (rin_ok _ _ _) rfl rfl rfl rfl rf71)) ?_
    refine AQuiet.guard 50 46 rfl rfl rfl rfl rfl rfl rfl [(49, _)] (fun h => And.intro (.inr ⟨_, rfl, h⟩) (trivial)) (fun h => (OpJ.not_ rfl rfl)) ?_
    refine AQuiet.cons 51 rfl rfl rfl (OpJ.or_ rfl rfl rfl ?_) ?_
    · first | (intro h; rw [h]; rfl) | (intro h; simp_all)
    refine AQuiet.cons 52 rfl rfl rfl (OpJ.move rfl rfl) ?_
    refine AQuiet.guard 53 52 rfl rfl rfl rfl rfl rfl rfl [(4, _)] (fun h => And.intro (.inl rfl) (trivial)) (fun h => (OpJ.fieldAddr rfl rfl fd75_4 rfl)) ?_
    refine AQuiet.guard 54 52 rfl rfl rfl rfl rfl rfl rfl [(53, _)] (fun h => And.intro (.inr ⟨_, rfl, h⟩) (trivial)) (fun h => (OpJ.load (v := .p (.int .i64 (gt Crd.d l i).many)) rfl rfl ty3 rfl)) ?_
    refine AQuiet.guard 55 52 rfl rfl rfl rfl rfl rfl rfl [(54, _)] (fun h => And.intro (.inr ⟨_, rfl, h⟩) (trivial)) (fun h => (OpJ.callP (rin_ok _ _ _) rfl rfl rfl rfl rf71)) ?_
    refine AQuiet.guard 56 52 rfl rfl rfl rfl rfl rfl rfl [(55, _)] (fun h => And.intro (.inr ⟨_, rfl, h⟩) (trivial)) (fun h => (OpJ.not_ rfl rfl)) ?_
    refine AQuiet.cons 57 rfl rfl rfl (OpJ.or_ rfl rfl rfl ?_) ?_
    · first | (intro h; rw [h]; rfl) | (intro h; simp_all)
    refine AQuiet.nil ?_
    refine AList.nil ?_
    refine AWp.cond _ rfl (fun hc1 => ?_) (fun hc1 => ?_)
    · skip
      refine AWp.seq ?_
      refine AWp.region ?_
      refine AList.c 2 rfl rfl rfl (OpJ.assign rfl rfl) ?_
      refine AList.nil ?_
      refine AWp.ret ?_
      refine Fin.oneE rfl rfl ?_
      show _ = PV.bool (riseB Crd.number crdB (-1) l)
      rw [hg2, rise_step Crd.number crdB _ Crd.d l i hk0, cd_c1 hk0 hrc hc1]
      rfl
    · skip
      refine AWp.skip ?_
      refine AWp.region ?_
      refine AList.c 9 rfl rfl rfl (OpJ.move rfl rfl) ?_
      refine AList.c 10 rfl rfl rfl (OpJ.add rfl rfl rfl (i64ok ?_)) ?_
      · omega
      refine AList.c 3 rfl rfl rfl (OpJ.assign rfl rfl) ?_
      refine AList.nil ?_
      refine ⟨i + 1, ?_, ?_, ?_⟩
      · have hyes := cd_c1 hk0 hrc hc1
        have hin1 : inB (gt Crd.d l i).number (lastR Crd.number Crd.d l i + 1) 1000000 = true := (Bool.and_eq_true_iff.1 hyes).1
        exact ⟨hk0, by rw [hg2, rise_step Crd.number crdB _ Crd.d l i hk0, hyes]; rfl, by have := inB_some hin1; show -1 ≤ (gt Crd.d l i).number; omega⟩
      · omega
      exact To.done [] rfl (by repeat (first | exact Sub.nil | refine Sub.cons rfl ?_)) rfl
  · skip
    have hi : i = l.length := by have h := of_decide_eq_false hc0; omega
    refine AWp.exit ?_
    refine AWp.seq ?_
    refine AWp.region ?_
    refine AList.c 2 rfl rfl rfl (OpJ.assign rfl rfl) ?_
    refine AList.nil ?_
    refine AWp.ret ?_
    refine Fin.oneE rfl rfl ?_
    show _ = PV.bool (riseB Crd.number crdB (-1) l)
    rw [hg2, hi, List.drop_length]
    rfl
theorem rlong_nat (n : Nat) : n < 268435456 → Pure Tryz.prog 38 [.int .i64 (n : Int)] (.str (sB (longT n))) := by
  refine Nat.strongRecOn n (fun n ih hn => ?_)
  have hdl := longT_len 3 (n / 128) (by have h4 : (128 : Nat) ^ (3 + 1) = 268435456 := (by decide); omega)
  refine Pure.start (N := 19) Tryz.func38 rfl rfl (Nat.le_of_ble_eq_true rfl) ?_
  refine AWp.seq ?_
  refine AWp.region ?_
  refine AList.c 2 rfl rfl rfl (OpJ.assign rfl rfl) ?_
  refine AList.nil ?_
  refine AWp.seq ?_
  refine AWp.seq ?_
  refine AWp.region ?_
  refine AList.c 3 rfl rfl rfl (OpJ.move rfl rfl) ?_
  refine AList.c 4 rfl rfl rfl (OpJ.lss rfl rfl rfl) ?_
  refine AList.nil ?_
  refine AWp.cond _ rfl (fun hc0 => ?_) (fun hc0 => ?_)
  · skip
    have hs : n < 128 := by have h := of_decide_eq_true hc0; omega
    refine AWp.seq ?_
    refine AWp.region ?_
    refine AList.c 5 rfl rfl rfl (OpJ.move rfl rfl) ?_
    refine AList.c 6 rfl rfl rfl (OpJ.convInt (m := ((UInt8.ofNat n).toNat : Int)) rfl rfl (by rw [un3]; rfl) un5 (u8_conv n)) ?_
    refine AList.c 7 rfl rfl rfl (OpJ.buildImm rfl slz56 (by decide) rfl rfl rfl) ?_
    refine AList.c 8 rfl rfl rfl (OpJ.bytesStr [UInt8.ofNat n] rfl rfl bt56 st9) ?_
    refine AList.c 2 rfl rfl rfl (OpJ.assign rfl rfl) ?_
    refine AList.nil ?_
    refine AWp.ret ?_
    refine Fin.oneE rfl rfl ?_
    rw [longT_low hs]
  · skip
    have hs : 128 ≤ n := by have h := of_decide_eq_false hc0; omega
    refine AWp.skip ?_
    refine AWp.seq ?_
    refine AWp.regionDraw 11 mixed (by kernel_rfl) (by decide) ?_
    refine AQuiet.cons 9 rfl rfl rfl (OpJ.move rfl rfl) ?_
    refine AQuiet.cons 10 rfl rfl rfl (OpJ.rem (m := ((n % 128 : Nat) : Int)) rfl rfl rfl ?_ ?_) ?_
    · decide
    · rfl
    refine AQuiet.cons 11 rfl rfl rfl (OpJ.add (m := ((128 + n % 128 : Nat) : Int)) rfl rfl rfl ((i64ok ?_).trans ?_)) ?_
    · omega
    · omega
    refine AQuiet.cons 12 rfl rfl rfl (OpJ.convInt (m := ((UInt8.ofNat (128 + n % 128)).toNat : Int)) rfl rfl (by rw [un3]; rfl) un5 (u8_conv (128 + n % 128))) ?_
    refine AQuiet.cons 13 rfl rfl rfl (OpJ.buildImm rfl slz56 (by decide) rfl rfl rfl) ?_
    refine AQuiet.cons 14 rfl rfl rfl (OpJ.bytesStr [UInt8.ofNat (128 + n % 128)] rfl rfl bt56 st9) ?_
    refine AQuiet.cons 15 rfl rfl rfl (OpJ.move rfl rfl) ?_
    refine AQuiet.cons 16 rfl rfl rfl (OpJ.quo (m := ((n / 128 : Nat) : Int)) rfl rfl rfl (by decide) ((i64ok (by show _ ≤ ((n / 128 : Nat) : Int) ∧ ((n / 128 : Nat) : Int) ≤ _; omega)).trans rfl)) ?_
    refine AQuiet.cons 17 rfl rfl rfl (OpJ.callP (ih (n / 128) (by omega) (by omega)) rfl rfl rfl rfl rf38) ?_
    refine AQuiet.cons 18 rfl rfl rfl (OpJ.strAdd _ _ rfl rfl rfl ?_) ?_
    · show 1 + _ < _; omega
    refine AQuiet.cons 2 rfl rfl rfl (OpJ.assign rfl rfl) ?_
    refine AQuiet.nil ?_
    refine AList.nil ?_
    refine AWp.ret ?_
    refine Fin.oneE rfl rfl ?_
    rw [longT_high hs]
    rfl
theorem rlong_ok (n : Int) (h0 : 0 ≤ n) (h1 : n < 268435456) : Pure Tryz.prog 38 [.int .i64 n] (.str (sB (longT n.toNat))) := by
  have h := rlong_nat n.toNat (by omega)
  rwa [Int.toNat_of_nonneg h0] at h
theorem rsum_ok (s : Bs) (hs : s.length ≤ 1000000) : Pure Tryz.prog 39 [.str (sB s)] (.int .u8 ((sumB s).toNat : Int)) := by
  refine Pure.start (N := 20) Tryz.func39 rfl rfl (Nat.le_of_ble_eq_true rfl) ?_
  refine AWp.seq ?_
  refine AWp.region ?_
  refine AList.c 2 rfl rfl rfl (OpJ.assign rfl rfl) ?_
  refine AList.nil ?_
  refine AWp.seq ?_
  refine AWp.region ?_
  refine AList.c 3 rfl rfl rfl (OpJ.assign rfl rfl) ?_
  refine AList.nil ?_
  refine AWp.seq ?_
  refine AWp.seq ?_
  refine AWp.region ?_
  refine AList.c 4 rfl rfl rfl (OpJ.assign rfl rfl) ?_
  refine AList.nil ?_
  refine AWp.block ?_
  refine AWp.loopHL [0, 2, 18, 19] (fun g => [(4, .p (.int .i64 ((g : Nat) : Int))), (3, .p (.int .i64 ((sumB (s.take g)).toNat : Int)))]) (fun g => []) (fun g => g ≤ s.length) (fun g => s.length - g) 0 (Nat.zero_le _) (To.sub (Sub.chk (Sub.cons rfl (Sub.cons rfl (Sub.nil))))) (fun i hg => ?_)
  refine AWp.seq ?_
  refine AWp.seq ?_
  refine AWp.region ?_
  refine AList.c 5 rfl rfl rfl (OpJ.move rfl rfl) ?_
  refine AList.c 6 rfl rfl rfl (OpJ.move rfl rfl) ?_
  refine AList.c 7 rfl rfl rfl (OpJ.lenStr rfl rfl un9) ?_
  refine AList.c 8 rfl rfl rfl (OpJ.lss rfl rfl rfl) ?_
  refine AList.nil ?_
  refine AWp.cond _ rfl (fun hc0 => ?_) (fun hc0 => ?_)
  · skip
    have hk0 : i < s.length := by have h := of_decide_eq_true hc0; rw [sB_size] at h; omega
    have n1 := (gt 0 s i).toNat_lt
    have n2 := (sumB (s.take i)).toNat_lt
    refine AWp.skip ?_
    refine AWp.seq ?_
    refine AWp.block ?_
    refine AWp.region ?_
    refine AList.c 11 rfl rfl rfl (OpJ.move rfl rfl) ?_
    refine AList.c 12 rfl rfl rfl (OpJ.move rfl rfl) ?_
    refine AList.c 13 rfl rfl rfl (OpJ.move rfl rfl) ?_
    refine AList.c 14 rfl rfl rfl (OpJ.strIx s i (gt 0 s i) rfl rfl rfl st9 (by rw [List.getElem?_eq_getElem hk0, gt_get 0 i hk0])) ?_
    refine AList.c 15 rfl rfl rfl (OpJ.convInt rfl rfl (by rw [un5]; rfl) un3 (i64ok ?_)) ?_
    · omega
    refine AList.c 16 rfl rfl rfl (OpJ.add (m := (((sumB (s.take i)).toNat + (gt 0 s i).toNat : Nat) : Int)) rfl rfl rfl ((i64ok ?_).trans ?_)) ?_
    · omega
    · omega
    refine AList.c 17 rfl rfl rfl (OpJ.rem (m := ((sumB (s.take i) + gt 0 s i).toNat : Int)) rfl rfl rfl ?_ ?_) ?_
    · decide
    · exact sum_tmod _ _
    refine AList.c 3 rfl rfl rfl (OpJ.assign rfl rfl) ?_
    refine AList.nil ?_
    refine AWp.region ?_
    refine AList.c 9 rfl rfl rfl (OpJ.move rfl rfl) ?_
    refine AList.c 10 rfl rfl rfl (OpJ.add (m := ((i + 1 : Nat) : Int)) rfl rfl rfl ((i64ok ?_).trans ?_)) ?_
    · omega
    · omega
    refine AList.c 4 rfl rfl rfl (OpJ.assign rfl rfl) ?_
    refine AList.nil ?_
    refine ⟨i + 1, ?_, ?_, ?_⟩
    · exact hk0
    · omega
    rw [← sum_step s i hk0]
    exact To.done [] rfl (by repeat (first | exact Sub.nil | refine Sub.cons rfl ?_)) rfl
  · skip
    have hi : i = s.length := by have h := of_decide_eq_false hc0; rw [sB_size] at h; omega
    subst hi
    have n2 := (sumB (s.take s.length)).toNat_lt
    refine AWp.exit ?_
    refine AWp.seq ?_
    refine AWp.region ?_
    refine AList.c 18 rfl rfl rfl (OpJ.move rfl rfl) ?_
    refine AList.c 19 rfl rfl rfl (OpJ.convInt rfl rfl (by rw [un3]; rfl) un5 (u8ok ?_)) ?_
    · omega
    refine AList.c 2 rfl rfl rfl (OpJ.assign rfl rfl) ?_
    refine AList.nil ?_
    refine AWp.ret ?_
    refine Fin.oneE rfl rfl ?_
    rw [List.take_length]
theorem rwriteC_ok (l : List Crd) (hl : l.length ≤ bigN) : Pure Tryz.prog 10 [crdsV l] (.tuple [.str (sB (wrC l).1), .int .i64 (wrC l).2]) := by
  have hl2 := hl
  unfold bigN at hl2
  refine Pure.start (N := 69) Tryz.func10 rfl rfl (Nat.le_of_ble_eq_true rfl) ?_
  refine AWp.seq ?_
  refine AWp.region ?_
  refine AList.c 2 rfl rfl rfl (OpJ.assign rfl rfl) ?_
  refine AList.c 3 rfl rfl rfl (OpJ.assign rfl rfl) ?_
  refine AList.nil ?_
  refine AWp.seq ?_
  refine AWp.seq ?_
  refine AWp.region ?_
  refine AList.c 8 rfl rfl rfl (OpJ.move rfl rfl) ?_
  refine AList.c 9 rfl rfl rfl (OpJ.lenSlice rfl rfl sl23 rfl) ?_
  refine AList.c 10 rfl rfl rfl (OpJ.gtr rfl rfl rfl) ?_
  refine AList.nil ?_
  refine AWp.cond _ rfl (fun hc0 => ?_) (fun hc0 => ?_)
  · skip
    have h30 : 40 < l.length := by have h := of_decide_eq_true hc0; omega
    refine AWp.seq ?_
    refine AWp.region ?_
    refine AList.c 2 rfl rfl rfl (OpJ.assign rfl rfl) ?_
    refine AList.c 3 rfl rfl rfl (OpJ.assign rfl rfl) ?_
    refine AList.nil ?_
    refine AWp.ret ?_
    refine Fin.manyE (xs := [.str (sB []), .int .i64 3]) rfl ⟨_, _, rfl, rfl, ⟨_, _, rfl, rfl, rfl⟩⟩ rfl ?_
    rw [wrC_3 h30]
  · skip
    have h30 : l.length ≤ 40 := by have h := of_decide_eq_false hc0; omega
    refine AWp.skip ?_
    refine AWp.seq ?_
    refine AWp.seq ?_
    refine AWp.region ?_
    refine AList.c 11 rfl rfl rfl (OpJ.move rfl rfl) ?_
    refine AList.c 12 rfl rfl rfl (OpJ.callP (rcards_ok l hl) rfl rfl rfl rfl rf37) ?_
    refine AList.c 13 rfl rfl rfl (OpJ.not_ rfl rfl) ?_
    refine AList.nil ?_
    refine AWp.cond _ rfl (fun hc1 => ?_) (fun hc1 => ?_)
    · skip
      have hv : crdsB l = false := by simpa using hc1
      refine AWp.seq ?_
      refine AWp.region ?_
      refine AList.c 2 rfl rfl rfl (OpJ.assign rfl rfl) ?_
      refine AList.c 3 rfl rfl rfl (OpJ.assign rfl rfl) ?_
      refine AList.nil ?_
      refine AWp.ret ?_
      refine Fin.manyE (xs := [.str (sB []), .int .i64 1]) rfl ⟨_, _, rfl, rfl, ⟨_, _, rfl, rfl, rfl⟩⟩ rfl ?_
      rw [wrC_1 h30 hv]
    · skip
      have hv : crdsB l = true := by simpa using hc1
      have hall := rise_all hv (by decide)
      have hTl : ∀ k, (crdsT 0 (l.take k)).length ≤ 560 := fun k => by have h := crdsT_len (l.take k) 0 (Int.le_refl _) (fun c hc => ⟨(hall c (List.mem_of_mem_take hc)).2.2.2, (hall c (List.mem_of_mem_take hc)).2.1, (hall c (List.mem_of_mem_take hc)).2.2.1⟩); rw [List.length_take] at h; omega
      have hH4 : (crdH l).length = 4 := rfl
      refine AWp.skip ?_
      refine AWp.seq ?_
      refine AWp.region ?_
      refine AList.c 14 rfl rfl rfl (OpJ.move rfl rfl) ?_
      refine AList.c 15 rfl rfl rfl (OpJ.lenSlice rfl rfl sl23 rfl) ?_
      refine AList.c 16 rfl rfl rfl (OpJ.convInt (m := ((UInt8.ofNat l.length).toNat : Int)) rfl rfl (by rw [un3]; rfl) un5 (u8_conv l.length)) ?_
      refine AList.c 17 rfl rfl rfl (OpJ.buildImm rfl slz56 (by decide) rfl rfl rfl) ?_
      refine AList.c 18 rfl rfl rfl (OpJ.bytesStr (crdH l) rfl rfl bt56 st9) ?_
      refine AList.c 4 rfl rfl rfl (OpJ.assign rfl rfl) ?_
      refine AList.nil ?_
      refine AWp.seq ?_
      refine AWp.seq ?_
      refine AWp.region ?_
      refine AList.c 5 rfl rfl rfl (OpJ.assign rfl rfl) ?_
      refine AList.nil ?_
      refine AWp.block ?_
      refine AWp.loopHL [0, 2, 3, 63, 64, 65, 66, 67, 68] (fun g => [(5, .p (.int .i64 ((g : Nat) : Int))), (4, .p (.str (sB (crdH l ++ crdsT 0 (l.take g)))))]) (fun g => []) (fun g => g ≤ l.length) (fun g => l.length - g) 0 (Nat.zero_le _) (To.sub (Sub.chk (Sub.cons rfl (Sub.cons (by rw [List.take_zero, show crdsT 0 [] = [] from rfl, List.append_nil]; rfl) Sub.nil)))) (fun i hg => ?_)
      refine AWp.seq ?_
      refine AWp.seq ?_
      refine AWp.region ?_
      refine AList.c 19 rfl rfl rfl (OpJ.move rfl rfl) ?_
      refine AList.c 20 rfl rfl rfl (OpJ.move rfl rfl) ?_
      refine AList.c 21 rfl rfl rfl (OpJ.lenSlice rfl rfl sl23 rfl) ?_
      refine AList.c 22 rfl rfl rfl (OpJ.lss rfl rfl rfl) ?_
      refine AList.nil ?_
      refine AWp.cond _ rfl (fun hc2 => ?_) (fun hc2 => ?_)
      · skip
        have hk0 : i < l.length := by have h := of_decide_eq_true hc2; omega
        obtain ⟨_, hn0, hn1, hcb⟩ := hall _ (gt_mem Crd.d hk0)
        obtain ⟨b1, b2, b3, b4⟩ := crdB_some hcb
        obtain ⟨nx0, nx1⟩ := rise_nxt hv i hk0
        have hl1 := hTl i
        have hlr := crd_l l i hk0
        have g1 := long_len (n := ((gt Crd.d l i).number - nxtC l i)) (by omega)
        have g2 := long_len b1.2
        have g3 := long_len b4.2
        refine AWp.skip ?_
        refine AWp.seq ?_
        refine AWp.block ?_
        refine AWp.seq ?_
        refine AWp.region ?_
        refine AList.c 25 rfl rfl rfl (OpJ.move rfl rfl) ?_
        refine AList.c 26 rfl rfl rfl (OpJ.move rfl rfl) ?_
        refine AList.c 27 rfl rfl rfl (OpJ.indexG (g := gt Crd.d l) (gt_get _) rfl rfl rfl sl23 el23 rfl (fun _ => rfl) (by decide) hk0) ?_
        refine AList.c 28 rfl rfl rfl (OpJ.load (v := .p (.agg (gt Crd.d l i).cells)) rfl rfl ty75 rfl) ?_
        refine AList.c 6 rfl rfl rfl (OpJ.allocOwn rfl zr75 rfl) ?_
        refine AList.c0 rfl rfl (OpJ.store rfl rfl rfl rfl rfl ty75 rfl rfl) ?_
        refine AList.nil ?_
        refine AWp.seq ?_
        refine AWp.region ?_
        refine AList.c 29 rfl rfl rfl (OpJ.fieldAddr rfl rfl fd75_0 rfl) ?_
        refine AList.c 30 rfl rfl rfl (OpJ.load (v := .p (.int .i64 (gt Crd.d l i).number)) rfl rfl ty3 rfl) ?_
        refine AList.c 7 rfl rfl rfl (OpJ.assign rfl rfl) ?_
        refine AList.nil ?_
        refine AWp.join (fun (g : Unit) => [(0, .p (crdsV l)), (2, .p (.str (sB []))), (3, .p (.int .i64 0)), (4, .p (.str (sB (crdH l ++ crdsT 0 (l.take i))))), (5, .p (.int .i64 ((i : Nat) : Int))), (6, .ptr 0 0), (7, .p (.int .i64 ((gt Crd.d l i).number - nxtC l i)))]) (fun (g : Unit) => [.cells ((gt Crd.d l i).cells.map .p) 75]) (fun (g : Unit) => True) ?_ (fun g hg => ?_)
        · skip
          refine AWp.seq ?_
          refine AWp.region ?_
          refine AList.c 31 rfl rfl rfl (OpJ.move rfl rfl) ?_
          refine AList.c 32 rfl rfl rfl (OpJ.gtr rfl rfl rfl) ?_
          refine AList.nil ?_
          refine AWp.cond _ rfl (fun hc3 => ?_) (fun hc3 => ?_)
          · skip
            have hi0 : 0 < i := by have h := of_decide_eq_true hc3; omega
            have hnx := nxtC_pos (l := l) hi0
            refine AWp.region ?_
            refine AList.c 33 rfl rfl rfl (OpJ.move rfl rfl) ?_
            refine AList.c 34 rfl rfl rfl (OpJ.move rfl rfl) ?_
            refine AList.c 35 rfl rfl rfl (OpJ.move rfl rfl) ?_
            refine AList.c 36 rfl rfl rfl (OpJ.sub_ (m := ((i - 1 : Nat) : Int)) rfl rfl rfl ((i64ok ?_).trans ?_)) ?_
            · omega
            · omega
            refine AList.c 37 rfl rfl rfl (OpJ.indexG (g := gt Crd.d l) (k := (i - 1)) (gt_get _) rfl rfl rfl sl23 el23 rfl (fun _ => rfl) (by decide) (by omega)) ?_
            refine AList.c 38 rfl rfl rfl (OpJ.fieldAddr rfl rfl fd75_0 rfl) ?_
            refine AList.c 39 rfl rfl rfl (OpJ.load (v := .p (.int .i64 (gt Crd.d l (i - 1)).number)) rfl rfl ty3 rfl) ?_
            refine AList.c 40 rfl rfl rfl (OpJ.sub_ rfl rfl rfl (i64ok ?_)) ?_
            · omega
            refine AList.c 41 rfl rfl rfl (OpJ.sub_ (m := ((gt Crd.d l i).number - nxtC l i)) rfl rfl rfl ((i64ok ?_).trans ?_)) ?_
            · omega
            · omega
            refine AList.c 7 rfl rfl rfl (OpJ.assign rfl rfl) ?_
            refine AList.nil ?_
            exact ⟨(), trivial, To.sub (by repeat (first | exact Sub.nil | refine Sub.cons rfl ?_))⟩
          · skip
            have hi0 : i = 0 := by have h := of_decide_eq_false hc3; omega
            have hnx : nxtC l i = 0 := by rw [hi0]; rfl
            refine AWp.skip ?_
            exact ⟨(), trivial, To.sub (Sub.cons rfl (Sub.cons rfl (Sub.cons rfl (Sub.cons rfl (Sub.cons rfl (Sub.cons rfl (Sub.cons (by rw [hnx, Int.sub_zero]; rfl) Sub.nil)))))))⟩
        · skip
          refine AWp.regionDraw 22 mixed (by kernel_rfl) (by decide) ?_
          refine AQuiet.cons 42 rfl rfl rfl (OpJ.move rfl rfl) ?_
          refine AQuiet.cons 43 rfl rfl rfl (OpJ.move rfl rfl) ?_
          refine AQuiet.cons 44 rfl rfl rfl (OpJ.callP (rlong_ok _ (by omega) (by omega)) rfl rfl rfl rfl rf38) ?_
          refine AQuiet.cons 45 rfl rfl rfl (OpJ.strAdd _ _ rfl rfl rfl ?_) ?_
          · simp only [List.length_append]; omega
          refine AQuiet.cons 46 rfl rfl rfl (OpJ.fieldAddr rfl rfl fd75_1 rfl) ?_
          refine AQuiet.cons 47 rfl rfl rfl (OpJ.load (v := .p (.int .i64 (gt Crd.d l i).hour)) rfl rfl ty3 rfl) ?_
          refine AQuiet.cons 48 rfl rfl rfl (OpJ.callP (rlong_ok _ b1.1 (by omega)) rfl rfl rfl rfl rf38) ?_
          refine AQuiet.cons 49 rfl rfl rfl (OpJ.strAdd _ _ rfl rfl rfl ?_) ?_
          · simp only [List.length_append]; omega
          refine AQuiet.cons 50 rfl rfl rfl (OpJ.fieldAddr rfl rfl fd75_2 rfl) ?_
          refine AQuiet.cons 51 rfl rfl rfl (OpJ.load (v := .p (.int .i64 (gt Crd.d l i).shade)) rfl rfl ty3 rfl) ?_
          refine AQuiet.cons 52 rfl rfl rfl (OpJ.convInt (m := ((UInt8.ofNat (gt Crd.d l i).shade.toNat).toNat : Int)) rfl rfl (by rw [un3]; rfl) un5 (u8_convI b2.1)) ?_
          refine AQuiet.cons 53 rfl rfl rfl (OpJ.fieldAddr rfl rfl fd75_3 rfl) ?_
          refine AQuiet.cons 54 rfl rfl rfl (OpJ.load (v := .p (.int .i64 (gt Crd.d l i).places)) rfl rfl ty3 rfl) ?_
          refine AQuiet.cons 55 rfl rfl rfl (OpJ.convInt (m := ((UInt8.ofNat (gt Crd.d l i).places.toNat).toNat : Int)) rfl rfl (by rw [un3]; rfl) un5 (u8_convI b3.1)) ?_
          refine AQuiet.cons 56 rfl rfl rfl (OpJ.buildImm rfl slz56 (by decide) rfl rfl rfl) ?_
          refine AQuiet.cons 57 rfl rfl rfl (OpJ.bytesStr [UInt8.ofNat (gt Crd.d l i).shade.toNat, UInt8.ofNat (gt Crd.d l i).places.toNat] rfl rfl bt56 st9) ?_
          refine AQuiet.cons 58 rfl rfl rfl (OpJ.strAdd _ _ rfl rfl rfl ?_) ?_
          · simp only [List.length_append]; show _ + 2 < _; omega
          refine AQuiet.cons 59 rfl rfl rfl (OpJ.fieldAddr rfl rfl fd75_4 rfl) ?_
          refine AQuiet.cons 60 rfl rfl rfl (OpJ.load (v := .p (.int .i64 (gt Crd.d l i).many)) rfl rfl ty3 rfl) ?_
          refine AQuiet.cons 61 rfl rfl rfl (OpJ.callP (rlong_ok _ b4.1 (by omega)) rfl rfl rfl rfl rf38) ?_
          refine AQuiet.cons 62 rfl rfl rfl (OpJ.strAdd _ _ rfl rfl rfl ?_) ?_
          · simp only [List.length_append]; show _ + 2 + _ < _; omega
          refine AQuiet.cons 4 rfl rfl rfl (OpJ.assign rfl rfl) ?_
          refine AQuiet.nil ?_
          refine AList.nil ?_
          refine AWp.region ?_
          refine AList.c 23 rfl rfl rfl (OpJ.move rfl rfl) ?_
          refine AList.c 24 rfl rfl rfl (OpJ.add rfl rfl rfl (i64ok ?_)) ?_
          · omega
          refine AList.c 5 rfl rfl rfl (OpJ.assign rfl rfl) ?_
          refine AList.nil ?_
          refine ⟨i + 1, ?_, ?_, ?_⟩
          · exact hk0
          · omega
          rw [hlr]
          exact To.done [] rfl (by repeat (first | exact Sub.nil | refine Sub.cons rfl ?_)) rfl
      · skip
        have hi : i = l.length := by have h := of_decide_eq_false hc2; omega
        subst hi
        rw [List.take_length]
        have hl1 := hTl l.length
        rw [List.take_length] at hl1
        refine AWp.exit ?_
        refine AWp.seq ?_
        refine AWp.region ?_
        refine AList.c 63 rfl rfl rfl (OpJ.move rfl rfl) ?_
        refine AList.c 64 rfl rfl rfl (OpJ.move rfl rfl) ?_
        refine AList.c 65 rfl rfl rfl (OpJ.callP (rsum_ok (crdH l ++ crdsT 0 l) ?_) rfl rfl rfl rfl rf39) ?_
        · rw [List.length_append]; omega
        refine AList.c 66 rfl rfl rfl (OpJ.buildImm rfl slz56 (by decide) rfl rfl rfl) ?_
        refine AList.c 67 rfl rfl rfl (OpJ.bytesStr [sumB (crdH l ++ crdsT 0 l)] rfl rfl bt56 st9) ?_
        refine AList.c 68 rfl rfl rfl (OpJ.strAdd _ _ rfl rfl rfl ?_) ?_
        · rw [List.length_append]; show _ + 1 < _; omega
        refine AList.c 2 rfl rfl rfl (OpJ.assign rfl rfl) ?_
        refine AList.c 3 rfl rfl rfl (OpJ.assign rfl rfl) ?_
        refine AList.nil ?_
        refine AWp.ret ?_
        refine Fin.manyE (xs := [.str (sB (crdsTT l ++ [sumB (crdsTT l)])), .int .i64 0]) rfl ⟨_, _, rfl, rfl, ⟨_, _, rfl, rfl, rfl⟩⟩ rfl ?_
        rw [wrC_of h30 hv]
end Go.Proofs.YtcmkdegeljjalaaGreatDoor
end
