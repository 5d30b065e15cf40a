/-
  What the document says is valid.
  The last dip of a batch.
  What the document sees of a dip.
  The error of a dip, as the document says it.
  Plans, as the document checks them.
-/
import Derived.Test.YtibgdkaipleajaaCuF
import Derived.Test.YtibgdkaipleajaaCuC
import Derived.Test.YtibgdkaipleajaaCuP
section
set_option linter.unusedVariables false
set_option maxRecDepth 100000
set_option maxHeartbeats 4000000
set_option linter.unusedSimpArgs false
namespace Go.Proofs.Ytibgdkaipleajaa
open Go.AF
theorem in_ok (n lo hi : Int) : Pure Try.prog 38 [.int .i64 n, .int .i64 lo, .int .i64 hi] (.bool (inB n lo hi)) := by
  refine Pure.start (N := 15) Try.func38 rfl rfl (Nat.le_of_ble_eq_true rfl) ?_
  refine AWp.seq ?_
  refine AWp.region ?_
  refine AList.c 6 rfl rfl rfl (OpJ.assign rfl rfl) ?_
  refine AList.nil ?_
  refine AWp.seq ?_
  refine AWp.region ?_
  refine AList.c 7 rfl rfl rfl (OpJ.move rfl rfl) ?_
  refine AList.c 8 rfl rfl rfl (OpJ.move rfl rfl) ?_
  refine AList.c 9 rfl rfl rfl (OpJ.leq rfl rfl rfl) ?_
  refine AList.c 10 rfl rfl rfl (OpJ.move rfl rfl) ?_
  refine AList.g 11 10 rfl rfl rfl rfl rfl rfl rfl [(0, _)] (fun h => And.intro (.inl rfl) (trivial)) (fun h => (OpJ.move rfl rfl)) ?_
  refine AList.g 12 10 rfl rfl rfl rfl rfl rfl rfl [(2, _)] (fun h => And.intro (.inl rfl) (trivial)) (fun h => (OpJ.move rfl rfl)) ?_
  refine AList.g 13 10 rfl rfl rfl rfl rfl rfl rfl [(11, _), (12, _)] (fun h => And.intro (.inr ⟨_, rfl, h⟩) (And.intro (.inr ⟨_, rfl, h⟩) (trivial))) (fun h => (OpJ.leq rfl rfl rfl)) ?_
  refine AList.c 14 rfl rfl rfl (OpJ.and_ rfl rfl rfl ?_) ?_
  · first | (intro h; rw [h]; rfl) | (intro h; simp_all)
  refine AList.c 6 rfl rfl rfl (OpJ.assign rfl rfl) ?_
  refine AList.nil ?_
  refine AWp.ret ?_
  exact Fin.one rfl (rfl)
theorem many_ok (l : List Dp) (b : Int) (hl : l.length ≤ bigN) : Pure Try.prog 53 [dpsV l, .int .i64 b] (.int .i64 ((manyD l b l.length : Nat) : Int)) := by
  unfold bigN at hl
  refine Pure.start (N := 23) Try.func53 rfl rfl (Nat.le_of_ble_eq_true rfl) ?_
  refine AWp.seq ?_
  refine AWp.region ?_
  refine AList.c 4 rfl rfl rfl (OpJ.assign rfl rfl) ?_
  refine AList.nil ?_
  refine AWp.seq ?_
  refine AWp.region ?_
  refine AList.c 5 rfl rfl rfl (OpJ.assign rfl rfl) ?_
  refine AList.nil ?_
  refine AWp.seq ?_
  refine AWp.seq ?_
  refine AWp.region ?_
  refine AList.c 6 rfl rfl rfl (OpJ.assign rfl rfl) ?_
  refine AList.nil ?_
  refine AWp.block ?_
  refine AWp.loopKL [0, 1, 4, 22] (fun g => [(6, .p (.int .i64 ((g : Nat) : Int))), (5, .p (.int .i64 ((manyD l b g : Nat) : Int)))]) (fun g => g ≤ l.length) (fun g => l.length - g) 0 (Nat.zero_le _) (Sub.cons rfl (Sub.cons rfl (Sub.nil))) (fun i hg => ?_)
  refine AWp.seq ?_
  refine AWp.seq ?_
  refine AWp.region ?_
  refine AList.c 7 rfl rfl rfl (OpJ.move rfl rfl) ?_
  refine AList.c 8 rfl rfl rfl (OpJ.move rfl rfl) ?_
  refine AList.c 9 rfl rfl rfl (OpJ.lenSlice rfl rfl sl25 rfl) ?_
  refine AList.c 10 rfl rfl rfl (OpJ.lss rfl rfl rfl) ?_
  refine AList.nil ?_
  refine AWp.cond _ rfl (fun hc0 => ?_) (fun hc0 => ?_)
  · skip
    have hk0 : i < l.length := by have h := of_decide_eq_true hc0; omega
    have hml := manyD_le l b i
    refine AWp.skip ?_
    refine AWp.seq ?_
    refine AWp.block ?_
    refine AWp.seq ?_
    refine AWp.region ?_
    refine AList.c 13 rfl rfl rfl (OpJ.move rfl rfl) ?_
    refine AList.c 14 rfl rfl rfl (OpJ.move rfl rfl) ?_
    refine AList.c 15 rfl rfl rfl (OpJ.indexG (g := dpt l) dpt_get rfl rfl rfl sl25 el25 rfl (fun _ => rfl) (by decide) hk0) ?_
    refine AList.c 16 rfl rfl rfl (OpJ.fieldAddr rfl rfl fd49_0 rfl) ?_
    refine AList.c 17 rfl rfl rfl (OpJ.load (v := .p (.int .i64 (dpt l i).b)) rfl rfl ty3 rfl) ?_
    refine AList.c 18 rfl rfl rfl (OpJ.move rfl rfl) ?_
    refine AList.c 19 rfl rfl rfl (OpJ.eql rfl rfl rfl) ?_
    refine AList.nil ?_
    refine AWp.cond _ rfl (fun hc1 => ?_) (fun hc1 => ?_)
    · skip
      have e : manyD l b (i + 1) = manyD l b i + 1 := if_pos (of_decide_eq_true hc1)
      refine AWp.region ?_
      refine AList.c 20 rfl rfl rfl (OpJ.move rfl rfl) ?_
      refine AList.c 21 rfl rfl rfl (OpJ.add (m := ((manyD l b i + 1 : Nat) : Int)) rfl rfl rfl ((i64ok ?_).trans ?_)) ?_
      · omega
      · omega
      refine AList.c 5 rfl rfl rfl (OpJ.assign rfl rfl) ?_
      refine AList.nil ?_
      refine AWp.region ?_
      refine AList.c 11 rfl rfl rfl (OpJ.move rfl rfl) ?_
      refine AList.c 12 rfl rfl rfl (OpJ.add rfl rfl rfl (i64ok ?_)) ?_
      · omega
      refine AList.c 6 rfl rfl rfl (OpJ.assign rfl rfl) ?_
      refine AList.nil ?_
      refine ⟨i + 1, ?_, ?_, ?_⟩
      · omega
      · omega
      rw [e]
      exact To.sub (Sub.cons rfl (Sub.cons rfl (by repeat (first | exact Sub.nil | refine Sub.cons rfl ?_))))
    · skip
      have e : manyD l b (i + 1) = manyD l b i := if_neg (of_decide_eq_false hc1)
      refine AWp.skip ?_
      refine AWp.region ?_
      refine AList.c 11 rfl rfl rfl (OpJ.move rfl rfl) ?_
      refine AList.c 12 rfl rfl rfl (OpJ.add rfl rfl rfl (i64ok ?_)) ?_
      · omega
      refine AList.c 6 rfl rfl rfl (OpJ.assign rfl rfl) ?_
      refine AList.nil ?_
      refine ⟨i + 1, ?_, ?_, ?_⟩
      · omega
      · omega
      rw [e]
      exact To.sub (Sub.cons rfl (Sub.cons rfl (by repeat (first | exact Sub.nil | refine Sub.cons rfl ?_))))
  · skip
    obtain rfl : i = l.length := by have h := of_decide_eq_false hc0; omega
    refine AWp.exit ?_
    refine AWp.seq ?_
    refine AWp.region ?_
    refine AList.c 22 rfl rfl rfl (OpJ.move rfl rfl) ?_
    refine AList.c 4 rfl rfl rfl (OpJ.assign rfl rfl) ?_
    refine AList.nil ?_
    refine AWp.ret ?_
    exact Fin.oneE rfl rfl rfl
theorem count_ok (l : List Int) (b : Int) (hl : l.length ≤ bigN) : Pure Try.prog 57 [intsV l, .int .i64 b] (.int .i64 ((countI l b l.length : Nat) : Int)) := by
  unfold bigN at hl
  refine Pure.start (N := 22) Try.func57 rfl rfl (Nat.le_of_ble_eq_true rfl) ?_
  refine AWp.seq ?_
  refine AWp.region ?_
  refine AList.c 4 rfl rfl rfl (OpJ.assign rfl rfl) ?_
  refine AList.nil ?_
  refine AWp.seq ?_
  refine AWp.region ?_
  refine AList.c 5 rfl rfl rfl (OpJ.assign rfl rfl) ?_
  refine AList.nil ?_
  refine AWp.seq ?_
  refine AWp.seq ?_
  refine AWp.region ?_
  refine AList.c 6 rfl rfl rfl (OpJ.assign rfl rfl) ?_
  refine AList.nil ?_
  refine AWp.block ?_
  refine AWp.loopKL [0, 1, 4, 21] (fun g => [(6, .p (.int .i64 ((g : Nat) : Int))), (5, .p (.int .i64 ((countI l b g : Nat) : Int)))]) (fun g => g ≤ l.length) (fun g => l.length - g) 0 (Nat.zero_le _) (Sub.cons rfl (Sub.cons rfl (Sub.nil))) (fun i hg => ?_)
  refine AWp.seq ?_
  refine AWp.seq ?_
  refine AWp.region ?_
  refine AList.c 7 rfl rfl rfl (OpJ.move rfl rfl) ?_
  refine AList.c 8 rfl rfl rfl (OpJ.move rfl rfl) ?_
  refine AList.c 9 rfl rfl rfl (OpJ.lenSlice rfl rfl sl26 rfl) ?_
  refine AList.c 10 rfl rfl rfl (OpJ.lss rfl rfl rfl) ?_
  refine AList.nil ?_
  refine AWp.cond _ rfl (fun hc0 => ?_) (fun hc0 => ?_)
  · skip
    have hk0 : i < l.length := by have h := of_decide_eq_true hc0; omega
    have hml := countI_le l b i
    refine AWp.skip ?_
    refine AWp.seq ?_
    refine AWp.block ?_
    refine AWp.seq ?_
    refine AWp.region ?_
    refine AList.c 13 rfl rfl rfl (OpJ.move rfl rfl) ?_
    refine AList.c 14 rfl rfl rfl (OpJ.move rfl rfl) ?_
    refine AList.c 15 rfl rfl rfl (OpJ.indexG (g := nt l) nt_get rfl rfl rfl sl26 el26 rfl (fun _ => rfl) (by decide) hk0) ?_
    refine AList.c 16 rfl rfl rfl (OpJ.load (v := .p (.int .i64 (nt l i))) rfl rfl ty3 rfl) ?_
    refine AList.c 17 rfl rfl rfl (OpJ.move rfl rfl) ?_
    refine AList.c 18 rfl rfl rfl (OpJ.eql rfl rfl rfl) ?_
    refine AList.nil ?_
    refine AWp.cond _ rfl (fun hc1 => ?_) (fun hc1 => ?_)
    · skip
      have e : countI l b (i + 1) = countI l b i + 1 := if_pos (of_decide_eq_true hc1)
      refine AWp.region ?_
      refine AList.c 19 rfl rfl rfl (OpJ.move rfl rfl) ?_
      refine AList.c 20 rfl rfl rfl (OpJ.add (m := ((countI l b i + 1 : Nat) : Int)) rfl rfl rfl ((i64ok ?_).trans ?_)) ?_
      · omega
      · omega
      refine AList.c 5 rfl rfl rfl (OpJ.assign rfl rfl) ?_
      refine AList.nil ?_
      refine AWp.region ?_
      refine AList.c 11 rfl rfl rfl (OpJ.move rfl rfl) ?_
      refine AList.c 12 rfl rfl rfl (OpJ.add rfl rfl rfl (i64ok ?_)) ?_
      · omega
      refine AList.c 6 rfl rfl rfl (OpJ.assign rfl rfl) ?_
      refine AList.nil ?_
      refine ⟨i + 1, ?_, ?_, ?_⟩
      · omega
      · omega
      rw [e]
      exact To.sub (Sub.cons rfl (Sub.cons rfl (by repeat (first | exact Sub.nil | refine Sub.cons rfl ?_))))
    · skip
      have e : countI l b (i + 1) = countI l b i := if_neg (of_decide_eq_false hc1)
      refine AWp.skip ?_
      refine AWp.region ?_
      refine AList.c 11 rfl rfl rfl (OpJ.move rfl rfl) ?_
      refine AList.c 12 rfl rfl rfl (OpJ.add rfl rfl rfl (i64ok ?_)) ?_
      · omega
      refine AList.c 6 rfl rfl rfl (OpJ.assign rfl rfl) ?_
      refine AList.nil ?_
      refine ⟨i + 1, ?_, ?_, ?_⟩
      · omega
      · omega
      rw [e]
      exact To.sub (Sub.cons rfl (Sub.cons rfl (by repeat (first | exact Sub.nil | refine Sub.cons rfl ?_))))
  · skip
    obtain rfl : i = l.length := by have h := of_decide_eq_false hc0; omega
    refine AWp.exit ?_
    refine AWp.seq ?_
    refine AWp.region ?_
    refine AList.c 21 rfl rfl rfl (OpJ.move rfl rfl) ?_
    refine AList.c 4 rfl rfl rfl (OpJ.assign rfl rfl) ?_
    refine AList.nil ?_
    refine AWp.ret ?_
    exact Fin.oneE rfl rfl rfl
theorem all_ok (p : Pnt) (hb : p.bs.length ≤ bigN) (hs : ∀ k, k ≤ p.bs.length → sumD p.bs k ≤ bigN) : Pure Try.prog 35 [pntV p] (.int .i64 ((coats p : Nat) : Int)) := by
  unfold bigN at hb
  refine Pure.start (N := 22) Try.func35 rfl rfl (Nat.le_of_ble_eq_true rfl) ?_
  refine AWp.seq ?_
  refine AWp.region ?_
  refine AList.c 1 rfl rfl rfl (OpJ.boxImm rfl rfl rfl) ?_
  refine AList.c 2 rfl rfl rfl (OpJ.assign rfl rfl) ?_
  refine AList.nil ?_
  refine AWp.seq ?_
  refine AWp.region ?_
  refine AList.c 3 rfl rfl rfl (OpJ.assign rfl rfl) ?_
  refine AList.nil ?_
  refine AWp.seq ?_
  refine AWp.seq ?_
  refine AWp.region ?_
  refine AList.c 4 rfl rfl rfl (OpJ.assign rfl rfl) ?_
  refine AList.nil ?_
  refine AWp.block ?_
  refine AWp.loopKL [1, 2, 21] (fun g => [(4, .p (.int .i64 ((g : Nat) : Int))), (3, .p (.int .i64 ((sumD p.bs g : Nat) : Int)))]) (fun g => g ≤ p.bs.length) (fun g => p.bs.length - g) 0 (Nat.zero_le _) (Sub.cons rfl (Sub.cons rfl (Sub.nil))) (fun i hg => ?_)
  refine AWp.seq ?_
  refine AWp.seq ?_
  refine AWp.region ?_
  refine AList.c 5 rfl rfl rfl (OpJ.move rfl rfl) ?_
  refine AList.c 6 rfl rfl rfl (OpJ.fieldAddr rfl rfl fd24_2 rfl) ?_
  refine AList.c 7 rfl rfl rfl (OpJ.load (v := .p (cotsV p.bs)) rfl rfl ty22 rfl) ?_
  refine AList.c 8 rfl rfl rfl (OpJ.lenSlice rfl rfl sl22 rfl) ?_
  refine AList.c 9 rfl rfl rfl (OpJ.lss rfl rfl rfl) ?_
  refine AList.nil ?_
  refine AWp.cond _ rfl (fun hc0 => ?_) (fun hc0 => ?_)
  · skip
    have hk0 : i < p.bs.length := by have h := of_decide_eq_true hc0; omega
    have hs1 := hs (i + 1) (by omega)
    have hst : sumD p.bs (i + 1) = sumD p.bs i + (cot p.bs i).dry.length := rfl
    unfold bigN at hs1
    refine AWp.skip ?_
    refine AWp.seq ?_
    refine AWp.block ?_
    refine AWp.region ?_
    refine AList.c 12 rfl rfl rfl (OpJ.move rfl rfl) ?_
    refine AList.c 13 rfl rfl rfl (OpJ.fieldAddr rfl rfl fd24_2 rfl) ?_
    refine AList.c 14 rfl rfl rfl (OpJ.load (v := .p (cotsV p.bs)) rfl rfl ty22 rfl) ?_
    refine AList.c 15 rfl rfl rfl (OpJ.move rfl rfl) ?_
    refine AList.c 16 rfl rfl rfl (OpJ.indexG (g := cot p.bs) cot_get rfl rfl rfl sl22 el22 rfl (fun _ => rfl) (by decide) hk0) ?_
    refine AList.c 17 rfl rfl rfl (OpJ.fieldAddr rfl rfl fd52_0 rfl) ?_
    refine AList.c 18 rfl rfl rfl (OpJ.load (v := .p (spnsV (cot p.bs i).dry)) rfl rfl ty50 rfl) ?_
    refine AList.c 19 rfl rfl rfl (OpJ.lenSlice rfl rfl sl50 rfl) ?_
    refine AList.c 20 rfl rfl rfl (OpJ.add (m := ((sumD p.bs (i + 1) : Nat) : Int)) rfl rfl rfl ((i64ok ?_).trans ?_)) ?_
    · omega
    · omega
    refine AList.c 3 rfl rfl rfl (OpJ.assign rfl rfl) ?_
    refine AList.nil ?_
    refine AWp.region ?_
    refine AList.c 10 rfl rfl rfl (OpJ.move rfl rfl) ?_
    refine AList.c 11 rfl rfl rfl (OpJ.add rfl rfl rfl (i64ok ?_)) ?_
    · omega
    refine AList.c 4 rfl rfl rfl (OpJ.assign rfl rfl) ?_
    refine AList.nil ?_
    refine ⟨i + 1, ?_, ?_, ?_⟩
    · omega
    · omega
    exact To.done [] rfl (by repeat (first | exact Sub.nil | refine Sub.cons rfl ?_)) rfl
  · skip
    obtain rfl : i = p.bs.length := by have h := of_decide_eq_false hc0; omega
    refine AWp.exit ?_
    refine AWp.seq ?_
    refine AWp.region ?_
    refine AList.c 21 rfl rfl rfl (OpJ.move rfl rfl) ?_
    refine AList.c 2 rfl rfl rfl (OpJ.assign rfl rfl) ?_
    refine AList.nil ?_
    refine AWp.ret ?_
    exact Fin.oneE rfl rfl rfl
theorem rPaint_ok (p : Pnt) (hb : p.bs.length ≤ 8) (hbd : ∀ b ∈ p.bs, b.dry.length ≤ 14) : Pure Try.prog 20 [pntV p] (.bool (pntB p)) := by
  have hsm := sums_ok hb hbd
  refine Pure.start (N := 91) Try.func20 rfl rfl (Nat.le_of_ble_eq_true rfl) ?_
  refine AWp.seq ?_
  refine AWp.region ?_
  refine AList.c 1 rfl rfl rfl (OpJ.boxImm rfl rfl rfl) ?_
  refine AList.c 2 rfl rfl rfl (OpJ.assign rfl rfl) ?_
  refine AList.nil ?_
  refine AWp.seq ?_
  refine AWp.seq ?_
  refine AWp.region ?_
  refine AList.c 7 rfl rfl rfl (OpJ.fieldAddr rfl rfl fd24_0 rfl) ?_
  refine AList.c 8 rfl rfl rfl (OpJ.load (v := .p (.int .i64 p.dip)) rfl rfl ty3 rfl) ?_
  refine AList.c 9 rfl rfl rfl (OpJ.callP (in_ok _ _ _) rfl rfl rfl rfl rf38) ?_
  refine AList.c 10 rfl rfl rfl (OpJ.not_ rfl rfl) ?_
  refine AList.c 11 rfl rfl rfl (OpJ.move rfl rfl) ?_
  refine AList.g 12 11 rfl rfl rfl rfl rfl rfl rfl [(1, _)] (fun h => And.intro (.inl rfl) (trivial)) (fun h => (OpJ.fieldAddr rfl rfl fd24_1 rfl)) ?_
  refine AList.g 13 11 rfl rfl rfl rfl rfl rfl rfl [(12, _)] (fun h => And.intro (.inr ⟨_, rfl, h⟩) (trivial)) (fun h => (OpJ.load (v := .p (.int .i64 p.racks)) rfl rfl ty3 rfl)) ?_
  refine AList.g 14 11 rfl rfl rfl rfl rfl rfl rfl [(13, _)] (fun h => And.intro (.inr ⟨_, rfl, h⟩) (trivial)) (fun h => (OpJ.callP (in_ok _ _ _) rfl rfl rfl rfl rf38)) ?_
  refine AList.g 15 11 rfl rfl rfl rfl rfl rfl rfl [(14, _)] (fun h => And.intro (.inr ⟨_, rfl, h⟩) (trivial)) (fun h => (OpJ.not_ rfl rfl)) ?_
  refine AList.c 16 rfl rfl rfl (OpJ.or_ rfl rfl rfl ?_) ?_
  · first | (intro h; rw [h]; rfl) | (intro h; simp_all)
  refine AList.c 17 rfl rfl rfl (OpJ.move rfl rfl) ?_
  refine AList.g 18 17 rfl rfl rfl rfl rfl rfl rfl [(1, _)] (fun h => And.intro (.inl rfl) (trivial)) (fun h => (OpJ.fieldAddr rfl rfl fd24_2 rfl)) ?_
  refine AList.g 19 17 rfl rfl rfl rfl rfl rfl rfl [(18, _)] (fun h => And.intro (.inr ⟨_, rfl, h⟩) (trivial)) (fun h => (OpJ.load (v := .p (cotsV p.bs)) rfl rfl ty22 rfl)) ?_
  refine AList.g 20 17 rfl rfl rfl rfl rfl rfl rfl [(19, _)] (fun h => And.intro (.inr ⟨_, rfl, h⟩) (trivial)) (fun h => (OpJ.lenSlice rfl rfl sl22 rfl)) ?_
  refine AList.g 21 17 rfl rfl rfl rfl rfl rfl rfl [(20, _)] (fun h => And.intro (.inr ⟨_, rfl, h⟩) (trivial)) (fun h => (OpJ.callP (in_ok _ _ _) rfl rfl rfl rfl rf38)) ?_
  refine AList.g 22 17 rfl rfl rfl rfl rfl rfl rfl [(21, _)] (fun h => And.intro (.inr ⟨_, rfl, h⟩) (trivial)) (fun h => (OpJ.not_ rfl rfl)) ?_
  refine AList.c 23 rfl rfl rfl (OpJ.or_ rfl rfl rfl ?_) ?_
  · first | (intro h; rw [h]; rfl) | (intro h; simp_all)
  refine AList.nil ?_
  refine AWp.cond _ rfl (fun hc0 => ?_) (fun hc0 => ?_)
  · skip
    rw [pnt_F1 (show pnt1 p = true from hc0)]
    refine AWp.seq ?_
    refine AWp.region ?_
    refine AList.c 2 rfl rfl rfl (OpJ.assign rfl rfl) ?_
    refine AList.nil ?_
    refine AWp.ret ?_
    exact Fin.oneE rfl rfl rfl
  · skip
    have hp1 : pnt1 p = false := hc0
    refine AWp.skip ?_
    refine AWp.seq ?_
    refine AWp.region ?_
    refine AList.c 3 rfl rfl rfl (OpJ.assign rfl rfl) ?_
    refine AList.nil ?_
    refine AWp.seq ?_
    refine AWp.seq ?_
    refine AWp.region ?_
    refine AList.c 4 rfl rfl rfl (OpJ.assign rfl rfl) ?_
    refine AList.nil ?_
    refine AWp.block ?_
    refine AWp.loopKL [1, 89, 90] (fun g => [(4, .p (.int .i64 ((g : Nat) : Int))), (3, .p (.int .i64 ((sumD p.bs g : Nat) : Int)))]) (fun g => g ≤ p.bs.length ∧ ∀ j, j < g → cotB (cot p.bs j) = false) (fun g => p.bs.length - g) 0 ⟨Nat.zero_le _, fun j hj => absurd hj (by omega)⟩ (Sub.cons rfl (Sub.cons rfl (Sub.nil))) (fun i hg => ?_)
    obtain ⟨hg1, hg2⟩ := hg
    refine AWp.seq ?_
    refine AWp.seq ?_
    refine AWp.region ?_
    refine AList.c 24 rfl rfl rfl (OpJ.move rfl rfl) ?_
    refine AList.c 25 rfl rfl rfl (OpJ.fieldAddr rfl rfl fd24_2 rfl) ?_
    refine AList.c 26 rfl rfl rfl (OpJ.load (v := .p (cotsV p.bs)) rfl rfl ty22 rfl) ?_
    refine AList.c 27 rfl rfl rfl (OpJ.lenSlice rfl rfl sl22 rfl) ?_
    refine AList.c 28 rfl rfl rfl (OpJ.lss rfl rfl rfl) ?_
    refine AList.nil ?_
    refine AWp.cond _ rfl (fun hc1 => ?_) (fun hc1 => ?_)
    · skip
      have hk0 : i < p.bs.length := by have h := of_decide_eq_true hc1; omega
      have hs1 := hsm (i + 1) (by omega)
      have hst : sumD p.bs (i + 1) = sumD p.bs i + (cot p.bs i).dry.length := rfl
      have hd14 := hbd _ (cot_mem hk0)
      unfold bigN at hs1
      refine AWp.skip ?_
      refine AWp.seq ?_
      refine AWp.block ?_
      refine AWp.seq ?_
      refine AWp.region ?_
      refine AList.c 31 rfl rfl rfl (OpJ.fieldAddr rfl rfl fd24_2 rfl) ?_
      refine AList.c 32 rfl rfl rfl (OpJ.load (v := .p (cotsV p.bs)) rfl rfl ty22 rfl) ?_
      refine AList.c 33 rfl rfl rfl (OpJ.move rfl rfl) ?_
      refine AList.c 34 rfl rfl rfl (OpJ.indexG (g := cot p.bs) cot_get rfl rfl rfl sl22 el22 rfl (fun _ => rfl) (by decide) hk0) ?_
      refine AList.c 35 rfl rfl rfl (OpJ.load (v := .p (.agg (cot p.bs i).cells)) rfl rfl ty52 rfl) ?_
      refine AList.c 5 rfl rfl rfl (OpJ.allocOwn rfl zr52 rfl) ?_
      refine AList.c0 rfl rfl (OpJ.store (H' := [.cells ((cot p.bs i).cells.map .p) 52]) rfl rfl rfl rfl rfl ty52 rfl rfl) ?_
      refine AList.nil ?_
      refine AWp.seq ?_
      refine AWp.seq ?_
      refine AWp.freeze 0 rfl rfl ?_
      refine AWp.norm [] [(1, _), (3, _), (4, _), (5, _)] [] rfl (by repeat (first | exact Sub.nil | refine Sub.cons rfl ?_)) rfl ?_
      refine AWp.region ?_
      refine AList.c 36 rfl rfl rfl (OpJ.fieldAddr rfl rfl fd52_0 rfl) ?_
      refine AList.c 37 rfl rfl rfl (OpJ.load (v := .p (spnsV (cot p.bs i).dry)) rfl rfl ty50 rfl) ?_
      refine AList.c 38 rfl rfl rfl (OpJ.lenSlice rfl rfl sl50 rfl) ?_
      refine AList.c 39 rfl rfl rfl (OpJ.eql rfl rfl rfl) ?_
      refine AList.c 40 rfl rfl rfl (OpJ.move rfl rfl) ?_
      refine AList.g 41 40 rfl rfl rfl rfl rfl rfl rfl [(5, _)] (fun h => And.intro (.inl rfl) (trivial)) (fun h => (OpJ.fieldAddr rfl rfl fd52_1 rfl)) ?_
      refine AList.g 42 40 rfl rfl rfl rfl rfl rfl rfl [(41, _)] (fun h => And.intro (.inr ⟨_, rfl, h⟩) (trivial)) (fun h => (OpJ.load (v := .p (.int .i64 (cot p.bs i).late)) rfl rfl ty3 rfl)) ?_
      refine AList.g 43 40 rfl rfl rfl rfl rfl rfl rfl [(42, _)] (fun h => And.intro (.inr ⟨_, rfl, h⟩) (trivial)) (fun h => (OpJ.callP (in_ok _ _ _) rfl rfl rfl rfl rf38)) ?_
      refine AList.g 44 40 rfl rfl rfl rfl rfl rfl rfl [(43, _)] (fun h => And.intro (.inr ⟨_, rfl, h⟩) (trivial)) (fun h => (OpJ.not_ rfl rfl)) ?_
      refine AList.c 45 rfl rfl rfl (OpJ.or_ rfl rfl rfl ?_) ?_
      · first | (intro h; rw [h]; rfl) | (intro h; simp_all)
      refine AList.nil ?_
      refine AWp.cond _ rfl (fun hc2 => ?_) (fun hc2 => ?_)
      · skip
        rw [pnt_F2 hk0 (cot_T1 hc2)]
        refine AWp.seq ?_
        refine AWp.region ?_
        refine AList.c 2 rfl rfl rfl (OpJ.assign rfl rfl) ?_
        refine AList.nil ?_
        refine AWp.ret ?_
        exact Fin.oneE rfl rfl rfl
      · skip
        have hc2f : (decide (((cot p.bs i).dry.length : Int) = 0) || !inB (cot p.bs i).late 0 1000) = false := hc2
        refine AWp.skip ?_
        refine AWp.seq ?_
        refine AWp.seq ?_
        refine AWp.region ?_
        refine AList.c 6 rfl rfl rfl (OpJ.assign rfl rfl) ?_
        refine AList.nil ?_
        refine AWp.block ?_
        refine AWp.loopKL [1, 3, 4, 5, 24, 25, 26, 27, 28, 29, 30, 31, 32, 33, 34, 35, 36, 37, 38, 39, 40, 41, 42, 43, 44, 45, 84, 85, 86, 87, 88, 89, 90] (fun g => [(6, .p (.int .i64 ((g : Nat) : Int)))]) (fun g => g ≤ (cot p.bs i).dry.length ∧ ∀ j, j < g → dryB (spt (cot p.bs i).dry j) = false) (fun g => (cot p.bs i).dry.length - g) 0 ⟨Nat.zero_le _, fun j hj => absurd hj (by omega)⟩ (Sub.cons rfl (Sub.nil)) (fun k hg => ?_)
        obtain ⟨hj1, hj2⟩ := hg
        refine AWp.seq ?_
        refine AWp.seq ?_
        refine AWp.region ?_
        refine AList.c 46 rfl rfl rfl (OpJ.move rfl rfl) ?_
        refine AList.c 47 rfl rfl rfl (OpJ.fieldAddr rfl rfl fd52_0 rfl) ?_
        refine AList.c 48 rfl rfl rfl (OpJ.load (v := .p (spnsV (cot p.bs i).dry)) rfl rfl ty50 rfl) ?_
        refine AList.c 49 rfl rfl rfl (OpJ.lenSlice rfl rfl sl50 rfl) ?_
        refine AList.c 50 rfl rfl rfl (OpJ.lss rfl rfl rfl) ?_
        refine AList.nil ?_
        refine AWp.cond _ rfl (fun hc3 => ?_) (fun hc3 => ?_)
        · skip
          have hk1 : k < (cot p.bs i).dry.length := by have h := of_decide_eq_true hc3; omega
          refine AWp.skip ?_
          refine AWp.seq ?_
          refine AWp.block ?_
          refine AWp.seq ?_
          refine AWp.regionDraw 31 mixed (by kernel_rfl) (by decide) ?_
          refine AQuiet.cons 53 rfl rfl rfl (OpJ.fieldAddr rfl rfl fd52_0 rfl) ?_
          refine AQuiet.cons 54 rfl rfl rfl (OpJ.load (v := .p (spnsV (cot p.bs i).dry)) rfl rfl ty50 rfl) ?_
          refine AQuiet.cons 55 rfl rfl rfl (OpJ.move rfl rfl) ?_
          refine AQuiet.cons 56 rfl rfl rfl (OpJ.indexG (g := spt (cot p.bs i).dry) spt_get rfl rfl rfl sl50 el50 rfl (fun _ => rfl) (by decide) hk1) ?_
          refine AQuiet.cons 57 rfl rfl rfl (OpJ.fieldAddr rfl rfl fd35_0 rfl) ?_
          refine AQuiet.cons 58 rfl rfl rfl (OpJ.load (v := .p (.int .i64 (spt (cot p.bs i).dry k).lo)) rfl rfl ty3 rfl) ?_
          refine AQuiet.cons 59 rfl rfl rfl (OpJ.lss rfl rfl rfl) ?_
          refine AQuiet.cons 60 rfl rfl rfl (OpJ.move rfl rfl) ?_
          refine AQuiet.guard 61 60 rfl rfl rfl rfl rfl rfl rfl [(5, _)] (fun h => And.intro (.inl rfl) (trivial)) (fun h => (OpJ.fieldAddr rfl rfl fd52_0 rfl)) ?_
          refine AQuiet.guard 62 60 rfl rfl rfl rfl rfl rfl rfl [(61, _)] (fun h => And.intro (.inr ⟨_, rfl, h⟩) (trivial)) (fun h => (OpJ.load (v := .p (spnsV (cot p.bs i).dry)) rfl rfl ty50 rfl)) ?_
          refine AQuiet.guard 63 60 rfl rfl rfl rfl rfl rfl rfl [(6, _)] (fun h => And.intro (.inl rfl) (trivial)) (fun h => (OpJ.move rfl rfl)) ?_
          refine AQuiet.guard 64 60 rfl rfl rfl rfl rfl rfl rfl [(62, _), (63, _)] (fun h => And.intro (.inr ⟨_, rfl, h⟩) (And.intro (.inr ⟨_, rfl, h⟩) (trivial))) (fun h => (OpJ.indexG (g := spt (cot p.bs i).dry) spt_get rfl rfl rfl sl50 el50 rfl (fun _ => rfl) (by decide) hk1)) ?_
          refine AQuiet.guard 65 60 rfl rfl rfl rfl rfl rfl rfl [(64, _)] (fun h => And.intro (.inr ⟨_, rfl, h⟩) (trivial)) (fun h => (OpJ.fieldAddr rfl rfl fd35_0 rfl)) ?_
          refine AQuiet.guard 66 60 rfl rfl rfl rfl rfl rfl rfl [(65, _)] (fun h => And.intro (.inr ⟨_, rfl, h⟩) (trivial)) (fun h => (OpJ.load (v := .p (.int .i64 (spt (cot p.bs i).dry k).lo)) rfl rfl ty3 rfl)) ?_
          refine AQuiet.guard 67 60 rfl rfl rfl rfl rfl rfl rfl [(5, _)] (fun h => And.intro (.inl rfl) (trivial)) (fun h => (OpJ.fieldAddr rfl rfl fd52_0 rfl)) ?_
          refine AQuiet.guard 68 60 rfl rfl rfl rfl rfl rfl rfl [(67, _)] (fun h => And.intro (.inr ⟨_, rfl, h⟩) (trivial)) (fun h => (OpJ.load (v := .p (spnsV (cot p.bs i).dry)) rfl rfl ty50 rfl)) ?_
          refine AQuiet.guard 69 60 rfl rfl rfl rfl rfl rfl rfl [(6, _)] (fun h => And.intro (.inl rfl) (trivial)) (fun h => (OpJ.move rfl rfl)) ?_
          refine AQuiet.guard 70 60 rfl rfl rfl rfl rfl rfl rfl [(68, _), (69, _)] (fun h => And.intro (.inr ⟨_, rfl, h⟩) (And.intro (.inr ⟨_, rfl, h⟩) (trivial))) (fun h => (OpJ.indexG (g := spt (cot p.bs i).dry) spt_get rfl rfl rfl sl50 el50 rfl (fun _ => rfl) (by decide) hk1)) ?_
          refine AQuiet.guard 71 60 rfl rfl rfl rfl rfl rfl rfl [(70, _)] (fun h => And.intro (.inr ⟨_, rfl, h⟩) (trivial)) (fun h => (OpJ.fieldAddr rfl rfl fd35_1 rfl)) ?_
          refine AQuiet.guard 72 60 rfl rfl rfl rfl rfl rfl rfl [(71, _)] (fun h => And.intro (.inr ⟨_, rfl, h⟩) (trivial)) (fun h => (OpJ.load (v := .p (.int .i64 (spt (cot p.bs i).dry k).hi)) rfl rfl ty3 rfl)) ?_
          refine AQuiet.guard 73 60 rfl rfl rfl rfl rfl rfl rfl [(66, _), (72, _)] (fun h => And.intro (.inr ⟨_, rfl, h⟩) (And.intro (.inr ⟨_, rfl, h⟩) (trivial))) (fun h => (OpJ.gtr rfl rfl rfl)) ?_
          refine AQuiet.cons 74 rfl rfl rfl (OpJ.or_ rfl rfl rfl ?_) ?_
          · first | (intro h; rw [h]; rfl) | (intro h; simp_all)
          refine AQuiet.cons 75 rfl rfl rfl (OpJ.move rfl rfl) ?_
          refine AQuiet.guard 76 75 rfl rfl rfl rfl rfl rfl rfl [(5, _)] (fun h => And.intro (.inl rfl) (trivial)) (fun h => (OpJ.fieldAddr rfl rfl fd52_0 rfl)) ?_
          refine AQuiet.guard 77 75 rfl rfl rfl rfl rfl rfl rfl [(76, _)] (fun h => And.intro (.inr ⟨_, rfl, h⟩) (trivial)) (fun h => (OpJ.load (v := .p (spnsV (cot p.bs i).dry)) rfl rfl ty50 rfl)) ?_
          refine AQuiet.guard 78 75 rfl rfl rfl rfl rfl rfl rfl [(6, _)] (fun h => And.intro (.inl rfl) (trivial)) (fun h => (OpJ.move rfl rfl)) ?_
          refine AQuiet.guard 79 75 rfl rfl rfl rfl rfl rfl rfl [(77, _), (78, _)] (fun h => And.intro (.inr ⟨_, rfl, h⟩) (And.intro (.inr ⟨_, rfl, h⟩) (trivial))) (fun h => (OpJ.indexG (g := spt (cot p.bs i).dry) spt_get rfl rfl rfl sl50 el50 rfl (fun _ => rfl) (by decide) hk1)) ?_
          refine AQuiet.guard 80 75 rfl rfl rfl rfl rfl rfl rfl [(79, _)] (fun h => And.intro (.inr ⟨_, rfl, h⟩) (trivial)) (fun h => (OpJ.fieldAddr rfl rfl fd35_1 rfl)) ?_
          refine AQuiet.guard 81 75 rfl rfl rfl rfl rfl rfl rfl [(80, _)] (fun h => And.intro (.inr ⟨_, rfl, h⟩) (trivial)) (fun h => (OpJ.load (v := .p (.int .i64 (spt (cot p.bs i).dry k).hi)) rfl rfl ty3 rfl)) ?_
          refine AQuiet.guard 82 75 rfl rfl rfl rfl rfl rfl rfl [(81, _)] (fun h => And.intro (.inr ⟨_, rfl, h⟩) (trivial)) (fun h => (OpJ.gtr rfl rfl rfl)) ?_
          refine AQuiet.cons 83 rfl rfl rfl (OpJ.or_ rfl rfl rfl ?_) ?_
          · first | (intro h; rw [h]; rfl) | (intro h; simp_all)
          refine AQuiet.nil ?_
          refine AList.nil ?_
          refine AWp.cond _ rfl (fun hc4 => ?_) (fun hc4 => ?_)
          · skip
            rw [pnt_F2 hk0 (cot_T2 hk1 (show dryB (spt (cot p.bs i).dry k) = true from hc4))]
            refine AWp.seq ?_
            refine AWp.region ?_
            refine AList.c 2 rfl rfl rfl (OpJ.assign rfl rfl) ?_
            refine AList.nil ?_
            refine AWp.ret ?_
            exact Fin.oneE rfl rfl rfl
          · skip
            have hdf : dryB (spt (cot p.bs i).dry k) = false := hc4
            refine AWp.skip ?_
            refine AWp.region ?_
            refine AList.c 51 rfl rfl rfl (OpJ.move rfl rfl) ?_
            refine AList.c 52 rfl rfl rfl (OpJ.add rfl rfl rfl (i64ok ?_)) ?_
            · omega
            refine AList.c 6 rfl rfl rfl (OpJ.assign rfl rfl) ?_
            refine AList.nil ?_
            refine ⟨k + 1, ?_, ?_, ?_⟩
            · refine ⟨by omega, fun j hj => ?_⟩
              rcases Nat.lt_succ_iff_lt_or_eq.1 hj with h1 | rfl
              · exact hj2 j h1
              · exact hdf
            · omega
            exact To.done [] rfl (by repeat (first | exact Sub.nil | refine Sub.cons rfl ?_)) rfl
        · skip
          obtain rfl : k = (cot p.bs i).dry.length := by have h := of_decide_eq_false hc3; omega
          have hcf := cot_F hc2f hj2
          refine AWp.exit ?_
          refine AWp.region ?_
          refine AList.c 84 rfl rfl rfl (OpJ.move rfl rfl) ?_
          refine AList.c 85 rfl rfl rfl (OpJ.fieldAddr rfl rfl fd52_0 rfl) ?_
          refine AList.c 86 rfl rfl rfl (OpJ.load (v := .p (spnsV (cot p.bs i).dry)) rfl rfl ty50 rfl) ?_
          refine AList.c 87 rfl rfl rfl (OpJ.lenSlice rfl rfl sl50 rfl) ?_
          refine AList.c 88 rfl rfl rfl (OpJ.add (m := ((sumD p.bs (i + 1) : Nat) : Int)) rfl rfl rfl ((i64ok ?_).trans ?_)) ?_
          · omega
          · omega
          refine AList.c 3 rfl rfl rfl (OpJ.assign rfl rfl) ?_
          refine AList.nil ?_
          refine AWp.region ?_
          refine AList.c 29 rfl rfl rfl (OpJ.move rfl rfl) ?_
          refine AList.c 30 rfl rfl rfl (OpJ.add rfl rfl rfl (i64ok ?_)) ?_
          · omega
          refine AList.c 4 rfl rfl rfl (OpJ.assign rfl rfl) ?_
          refine AList.nil ?_
          refine ⟨i + 1, ?_, ?_, ?_⟩
          · refine ⟨by omega, fun j hj => ?_⟩
            rcases Nat.lt_succ_iff_lt_or_eq.1 hj with h1 | rfl
            · exact hg2 j h1
            · exact hcf
          · omega
          exact To.done [] rfl (by repeat (first | exact Sub.nil | refine Sub.cons rfl ?_)) rfl
    · skip
      obtain rfl : i = p.bs.length := by have h := of_decide_eq_false hc1; omega
      rw [pnt_E hp1 hg2]
      refine AWp.exit ?_
      refine AWp.seq ?_
      refine AWp.region ?_
      refine AList.c 89 rfl rfl rfl (OpJ.move rfl rfl) ?_
      refine AList.c 90 rfl rfl rfl (OpJ.leq rfl rfl rfl) ?_
      refine AList.c 2 rfl rfl rfl (OpJ.assign rfl rfl) ?_
      refine AList.nil ?_
      refine AWp.ret ?_
      exact Fin.oneE rfl rfl rfl
end Go.Proofs.Ytibgdkaipleajaa
end

section
set_option linter.unusedVariables false
set_option maxRecDepth 100000
set_option maxHeartbeats 4000000
set_option linter.unusedSimpArgs false
namespace Go.Proofs.Ytibgdkaipleajaa
open Go.AF
def lastV (r : Int × Spn × Bool) : PV := .tuple [.int .i64 r.1, .agg r.2.1.cells, .bool r.2.2]
theorem many_T (l : List Dp) (b : Int) (i : Nat) (h : i ≤ l.length) (hl : l.length ≤ 1000 := by omega) : Pure Try.prog 53 [dpsV (l.take i), .int .i64 b] (.int .i64 ((manyD (l.take i) b i : Nat) : Int)) := by
  have h2 := many_ok (l.take i) b (by rw [List.length_take]; unfold bigN; omega)
  rwa [show (l.take i).length = i by rw [List.length_take]; omega] at h2
theorem last_ok (p : Pnt) (hp : Ok p) (l : List Dp) (hG : Good p l) (hl : l.length ≤ 1000) (b : Int) : Pure Try.prog 39 [pntV p, dpsV l, .int .i64 b] (lastV (lastD p l b l.length)) := by
  have hd := hp.dip
  refine Pure.start (N := 46) Try.func39 rfl rfl (Nat.le_of_ble_eq_true rfl) ?_
  refine AWp.seq ?_
  refine AWp.region ?_
  refine AList.c 3 rfl rfl rfl (OpJ.boxImm rfl rfl rfl) ?_
  refine AList.c 6 rfl rfl rfl (OpJ.assign rfl rfl) ?_
  refine AList.c 7 rfl rfl rfl (OpJ.allocOwn rfl zr35 rfl) ?_
  refine AList.c 8 rfl rfl rfl (OpJ.assign rfl rfl) ?_
  refine AList.nil ?_
  refine AWp.seq ?_
  refine AWp.seq ?_
  refine AWp.region ?_
  refine AList.c 10 rfl rfl rfl (OpJ.move rfl rfl) ?_
  refine AList.c 11 rfl rfl rfl (OpJ.lenSlice rfl rfl sl25 rfl) ?_
  refine AList.c 12 rfl rfl rfl (OpJ.sub_ rfl rfl rfl (i64ok ?_)) ?_
  · omega
  refine AList.c 9 rfl rfl rfl (OpJ.assign rfl rfl) ?_
  refine AList.nil ?_
  refine AWp.block ?_
  refine AWp.loopHL [1, 2, 3, 7, 45] (fun g => [(9, .p (.int .i64 (((g : Nat) : Int) - 1)))]) (fun g => [.cells [.p (.int .i64 0), .p (.int .i64 0)] 35]) (fun g => g ≤ l.length ∧ lastD p l b l.length = lastD p l b g) (fun g => g) l.length ⟨Nat.le_refl _, rfl⟩ (To.sub (Sub.chk (Sub.cons rfl (Sub.nil)))) (fun j hg => ?_)
  obtain ⟨hj1, hj2⟩ := hg
  refine AWp.seq ?_
  refine AWp.seq ?_
  refine AWp.region ?_
  refine AList.c 13 rfl rfl rfl (OpJ.move rfl rfl) ?_
  refine AList.c 14 rfl rfl rfl (OpJ.geq rfl rfl rfl) ?_
  refine AList.nil ?_
  refine AWp.cond _ rfl (fun hc0 => ?_) (fun hc0 => ?_)
  · skip
    obtain ⟨i, rfl⟩ : ∃ k, j = k + 1 := ⟨j - 1, by have h := of_decide_eq_true hc0; omega⟩
    have hk0 : i < l.length := by omega
    have ei : ((i + 1 : Nat) : Int) - 1 = (i : Int) := by omega
    rw [ei]
    refine AWp.skip ?_
    refine AWp.seq ?_
    refine AWp.block ?_
    refine AWp.seq ?_
    refine AWp.region ?_
    refine AList.c 17 rfl rfl rfl (OpJ.move rfl rfl) ?_
    refine AList.c 18 rfl rfl rfl (OpJ.move rfl rfl) ?_
    refine AList.c 19 rfl rfl rfl (OpJ.indexG (g := dpt l) dpt_get rfl rfl rfl sl25 el25 rfl (fun _ => rfl) (by decide) hk0) ?_
    refine AList.c 20 rfl rfl rfl (OpJ.fieldAddr rfl rfl fd49_0 rfl) ?_
    refine AList.c 21 rfl rfl rfl (OpJ.load (v := .p (.int .i64 (dpt l i).b)) rfl rfl ty3 rfl) ?_
    refine AList.c 22 rfl rfl rfl (OpJ.move rfl rfl) ?_
    refine AList.c 23 rfl rfl rfl (OpJ.eql rfl rfl rfl) ?_
    refine AList.nil ?_
    refine AWp.cond _ rfl (fun hc1 => ?_) (fun hc1 => ?_)
    · skip
      have hbi : (dpt l i).b = b := of_decide_eq_true hc1
      obtain ⟨k, hk, hkl, hm, hh0, hh1⟩ := hG i hk0
      obtain rfl : b = (k : Int) := by omega
      have hmk := many_fS hG k i (by omega)
      have hmd : manyD l (k : Int) i < (cot p.bs k).dry.length := by omega
      have e : lastD p l (k : Int) (i + 1) = ((dpt l i).h + p.dip, spt (cot p.bs k).dry (manyD l (k : Int) i), true) := if_pos hbi
      rw [hj2, e]
      refine AWp.seq ?_
      refine AWp.regionDraw 22 mixed (by kernel_rfl) (by decide) ?_
      refine AQuiet.cons 24 rfl rfl rfl (OpJ.move rfl rfl) ?_
      refine AQuiet.cons 25 rfl rfl rfl (OpJ.move rfl rfl) ?_
      refine AQuiet.cons 26 rfl rfl rfl (OpJ.indexG (g := dpt l) dpt_get rfl rfl rfl sl25 el25 rfl (fun _ => rfl) (by decide) hk0) ?_
      refine AQuiet.cons 27 rfl rfl rfl (OpJ.fieldAddr rfl rfl fd49_1 rfl) ?_
      refine AQuiet.cons 28 rfl rfl rfl (OpJ.load (v := .p (.int .i64 (dpt l i).h)) rfl rfl ty3 rfl) ?_
      refine AQuiet.cons 29 rfl rfl rfl (OpJ.fieldAddr rfl rfl fd24_0 rfl) ?_
      refine AQuiet.cons 30 rfl rfl rfl (OpJ.load (v := .p (.int .i64 p.dip)) rfl rfl ty3 rfl) ?_
      refine AQuiet.cons 31 rfl rfl rfl (OpJ.add rfl rfl rfl (i64ok ?_)) ?_
      · omega
      refine AQuiet.cons 32 rfl rfl rfl (OpJ.fieldAddr rfl rfl fd24_2 rfl) ?_
      refine AQuiet.cons 33 rfl rfl rfl (OpJ.load (v := .p (cotsV p.bs)) rfl rfl ty22 rfl) ?_
      refine AQuiet.cons 34 rfl rfl rfl (OpJ.move rfl rfl) ?_
      refine AQuiet.cons 35 rfl rfl rfl (OpJ.indexG (g := cot p.bs) cot_get rfl rfl rfl sl22 el22 rfl (fun _ => rfl) (by decide) hkl) ?_
      refine AQuiet.cons 36 rfl rfl rfl (OpJ.fieldAddr rfl rfl fd52_0 rfl) ?_
      refine AQuiet.cons 37 rfl rfl rfl (OpJ.load (v := .p (spnsV (cot p.bs k).dry)) rfl rfl ty50 rfl) ?_
      refine AQuiet.cons 38 rfl rfl rfl (OpJ.move rfl rfl) ?_
      refine AQuiet.cons 39 rfl rfl rfl (OpJ.move rfl rfl) ?_
      refine AQuiet.cons 40 rfl rfl rfl (OpJ.sliceIs (l := 0) (h := i) (r := ((l.take i).flatMap Dp.cells)) rfl rfl sl25 el25 rfl ⟨_, rfl⟩ (by omega) (by omega) (takeD l i)) ?_
      rw [cutD l (by omega)]
      refine AQuiet.cons 41 rfl rfl rfl (OpJ.move rfl rfl) ?_
      rw [← manyD_take l (k : Int) i (Nat.le_refl i)] at hmd
      rw [← manyD_take l (k : Int) i (Nat.le_refl i)]
      refine AQuiet.cons 42 rfl rfl rfl (OpJ.callP (many_T l (k : Int) i (by omega)) rfl rfl rfl rfl rf53) ?_
      refine AQuiet.cons 43 rfl rfl rfl (OpJ.indexG (g := spt (cot p.bs k).dry) spt_get rfl rfl rfl sl50 el50 rfl (fun _ => rfl) (by decide) hmd) ?_
      refine AQuiet.cons 44 rfl rfl rfl (OpJ.load (v := .p (.agg (spt (cot p.bs k).dry (manyD (l.take i) (k : Int) i)).cells)) rfl rfl ty35 rfl) ?_
      refine AQuiet.cons 6 rfl rfl rfl (OpJ.assign rfl rfl) ?_
      refine AQuiet.nil ?_
      refine AList.c0 rfl rfl (OpJ.store (H' := [.cells ((spt (cot p.bs k).dry (manyD (l.take i) (k : Int) i)).cells.map .p) 35]) rfl rfl rfl rfl rfl ty35 rfl rfl) ?_
      refine AList.c 8 rfl rfl rfl (OpJ.assign rfl rfl) ?_
      refine AList.nil ?_
      refine AWp.ret ?_
      exact Fin.manyE (xs := [.int .i64 ((dpt l i).h + p.dip), .agg (spt (cot p.bs k).dry (manyD (l.take i) (k : Int) i)).cells, .bool true]) rfl (⟨_, _, rfl, rfl, ⟨_, _, rfl, ⟨_, _, _, rfl, ty35, rfl⟩, ⟨_, _, rfl, rfl, rfl⟩⟩⟩) rfl rfl
    · skip
      have hbi : ¬ (dpt l i).b = b := of_decide_eq_false hc1
      have e : lastD p l b (i + 1) = lastD p l b i := if_neg hbi
      refine AWp.skip ?_
      refine AWp.region ?_
      refine AList.c 15 rfl rfl rfl (OpJ.move rfl rfl) ?_
      refine AList.c 16 rfl rfl rfl (OpJ.sub_ (m := ((i : Nat) : Int) - 1) rfl rfl rfl ((i64ok ?_).trans ?_)) ?_
      · omega
      · rfl
      refine AList.c 9 rfl rfl rfl (OpJ.assign rfl rfl) ?_
      refine AList.nil ?_
      refine ⟨i, ?_, ?_, ?_⟩
      · exact ⟨by omega, hj2.trans e⟩
      · omega
      exact To.sub (Sub.cons rfl (by repeat (first | exact Sub.nil | refine Sub.cons rfl ?_)))
  · skip
    obtain rfl : j = 0 := by have h := of_decide_eq_false hc0; omega
    rw [hj2]
    refine AWp.exit ?_
    refine AWp.seq ?_
    refine AWp.region ?_
    refine AList.c 45 rfl rfl rfl (OpJ.buildR (v := .p (.agg [.int .i64 0, .int .i64 0])) rfl bd35 rfl rfl rfl) ?_
    refine AList.c 6 rfl rfl rfl (OpJ.assign rfl rfl) ?_
    refine AList.c0 rfl rfl (OpJ.store (H' := [.cells [.p (.int .i64 0), .p (.int .i64 0)] 35]) rfl rfl rfl rfl rfl ty35 rfl rfl) ?_
    refine AList.c 8 rfl rfl rfl (OpJ.assign rfl rfl) ?_
    refine AList.nil ?_
    refine AWp.ret ?_
    exact Fin.manyE (xs := [.int .i64 0, .agg [.int .i64 0, .int .i64 0], .bool false]) rfl (⟨_, _, rfl, rfl, ⟨_, _, rfl, ⟨_, _, _, rfl, ty35, rfl⟩, ⟨_, _, rfl, rfl, rfl⟩⟩⟩) rfl rfl
end Go.Proofs.Ytibgdkaipleajaa
end

section
set_option linter.unusedVariables false
set_option maxRecDepth 100000
set_option maxHeartbeats 4000000
set_option linter.unusedSimpArgs false
namespace Go.Proofs.Ytibgdkaipleajaa
open Go.AF
theorem rHanging_ok (p : Pnt) (hp : Ok p) (l : List Dp) (hG : Good p l) (hl : l.length ≤ 1000) (but hour : Int) : Pure Try.prog 23 [pntV p, dpsV l, .int .i64 but, .int .i64 hour] (.int .i64 (cntB (hgD p l but hour) p.bs.length)) := by
  have hn4 := hp.n
  refine Pure.start (N := 51) Try.func23 rfl rfl (Nat.le_of_ble_eq_true rfl) ?_
  refine AWp.seq ?_
  refine AWp.region ?_
  refine AList.c 4 rfl rfl rfl (OpJ.boxImm rfl rfl rfl) ?_
  refine AList.c 8 rfl rfl rfl (OpJ.assign rfl rfl) ?_
  refine AList.nil ?_
  refine AWp.seq ?_
  refine AWp.region ?_
  refine AList.c 9 rfl rfl rfl (OpJ.assign rfl rfl) ?_
  refine AList.nil ?_
  refine AWp.seq ?_
  refine AWp.seq ?_
  refine AWp.region ?_
  refine AList.c 10 rfl rfl rfl (OpJ.assign rfl rfl) ?_
  refine AList.nil ?_
  refine AWp.block ?_
  refine AWp.loopKL [1, 2, 3, 4, 50] (fun g => [(10, .p (.int .i64 ((g : Nat) : Int))), (9, .p (.int .i64 (cntB (hgD p l but hour) g)))]) (fun g => g ≤ p.bs.length) (fun g => p.bs.length - g) 0 (Nat.zero_le _) (Sub.cons rfl (Sub.cons rfl (Sub.nil))) (fun i hg => ?_)
  refine AWp.seq ?_
  refine AWp.seq ?_
  refine AWp.region ?_
  refine AList.c 14 rfl rfl rfl (OpJ.move rfl rfl) ?_
  refine AList.c 15 rfl rfl rfl (OpJ.fieldAddr rfl rfl fd24_2 rfl) ?_
  refine AList.c 16 rfl rfl rfl (OpJ.load (v := .p (cotsV p.bs)) rfl rfl ty22 rfl) ?_
  refine AList.c 17 rfl rfl rfl (OpJ.lenSlice rfl rfl sl22 rfl) ?_
  refine AList.c 18 rfl rfl rfl (OpJ.lss rfl rfl rfl) ?_
  refine AList.nil ?_
  refine AWp.cond _ rfl (fun hc0 => ?_) (fun hc0 => ?_)
  · skip
    have hk0 : i < p.bs.length := by have h := of_decide_eq_true hc0; omega
    have hB := lastD_B hp hG (i : Int) l.length (Nat.le_refl _)
    have hcl := cntB_le (hgD p l but hour) i
    refine AWp.skip ?_
    refine AWp.seq ?_
    refine AWp.block ?_
    refine AWp.seq ?_
    refine AWp.region ?_
    refine AList.c 22 rfl rfl rfl (OpJ.load (v := .p (pntV p)) rfl rfl ty24 rfl) ?_
    refine AList.c 23 rfl rfl rfl (OpJ.move rfl rfl) ?_
    refine AList.c 24 rfl rfl rfl (OpJ.move rfl rfl) ?_
    refine AList.c 25 rfl rfl rfl (OpJ.callP (last_ok p hp l hG hl (i : Int)) rfl rfl rfl rfl rf39) ?_
    refine AList.c 21 rfl rfl rfl (OpJ.move rfl rfl) ?_
    refine AList.c 26 rfl rfl rfl (OpJ.extract rfl rfl rfl) ?_
    refine AList.c 27 rfl rfl rfl (OpJ.extract rfl rfl rfl) ?_
    refine AList.c 28 rfl rfl rfl (OpJ.extract rfl rfl rfl) ?_
    refine AList.c 12 rfl rfl rfl (OpJ.allocOwn rfl zr35 rfl) ?_
    refine AList.c 11 rfl rfl rfl (OpJ.assign rfl rfl) ?_
    refine AList.c0 rfl rfl (OpJ.store (H' := [.cells ((lastD p l (i : Int) l.length).2.1.cells.map .p) 35]) rfl rfl rfl rfl rfl ty35 rfl rfl) ?_
    refine AList.c 13 rfl rfl rfl (OpJ.assign rfl rfl) ?_
    refine AList.nil ?_
    refine AWp.seq ?_
    refine AWp.freeze 0 rfl rfl ?_
    refine AWp.norm [] [(1, _), (2, _), (3, _), (4, _), (9, _), (10, _), (11, _), (12, _), (13, _)] [] rfl (by repeat (first | exact Sub.nil | refine Sub.cons rfl ?_)) rfl ?_
    refine AWp.region ?_
    refine AList.c 29 rfl rfl rfl (OpJ.move rfl rfl) ?_
    refine AList.c 30 rfl rfl rfl (OpJ.move rfl rfl) ?_
    refine AList.g 31 30 rfl rfl rfl rfl rfl rfl rfl [(10, _)] (fun h => And.intro (.inl rfl) (trivial)) (fun h => (OpJ.move rfl rfl)) ?_
    refine AList.g 32 30 rfl rfl rfl rfl rfl rfl rfl [(2, _)] (fun h => And.intro (.inl rfl) (trivial)) (fun h => (OpJ.move rfl rfl)) ?_
    refine AList.g 33 30 rfl rfl rfl rfl rfl rfl rfl [(31, _), (32, _)] (fun h => And.intro (.inr ⟨_, rfl, h⟩) (And.intro (.inr ⟨_, rfl, h⟩) (trivial))) (fun h => (OpJ.neq rfl rfl rfl)) ?_
    refine AList.c 34 rfl rfl rfl (OpJ.and_ rfl rfl rfl ?_) ?_
    · first | (intro h; rw [h]; rfl) | (intro h; simp_all)
    refine AList.c 35 rfl rfl rfl (OpJ.move rfl rfl) ?_
    refine AList.g 36 35 rfl rfl rfl rfl rfl rfl rfl [(11, _)] (fun h => And.intro (.inl rfl) (trivial)) (fun h => (OpJ.move rfl rfl)) ?_
    refine AList.g 37 35 rfl rfl rfl rfl rfl rfl rfl [(3, _)] (fun h => And.intro (.inl rfl) (trivial)) (fun h => (OpJ.move rfl rfl)) ?_
    refine AList.g 38 35 rfl rfl rfl rfl rfl rfl rfl [(36, _), (37, _)] (fun h => And.intro (.inr ⟨_, rfl, h⟩) (And.intro (.inr ⟨_, rfl, h⟩) (trivial))) (fun h => (OpJ.leq rfl rfl rfl)) ?_
    refine AList.c 39 rfl rfl rfl (OpJ.and_ rfl rfl rfl ?_) ?_
    · first | (intro h; rw [h]; rfl) | (intro h; simp_all)
    refine AList.c 40 rfl rfl rfl (OpJ.move rfl rfl) ?_
    refine AList.g 41 40 rfl rfl rfl rfl rfl rfl rfl [(3, _)] (fun h => And.intro (.inl rfl) (trivial)) (fun h => (OpJ.move rfl rfl)) ?_
    refine AList.g 42 40 rfl rfl rfl rfl rfl rfl rfl [(11, _)] (fun h => And.intro (.inl rfl) (trivial)) (fun h => (OpJ.move rfl rfl)) ?_
    refine AList.g 43 40 rfl rfl rfl rfl rfl rfl rfl [(12, _)] (fun h => And.intro (.inl rfl) (trivial)) (fun h => (OpJ.fieldAddr rfl rfl fd35_1 rfl)) ?_
    refine AList.g 44 40 rfl rfl rfl rfl rfl rfl rfl [(43, _)] (fun h => And.intro (.inr ⟨_, rfl, h⟩) (trivial)) (fun h => (OpJ.load (v := .p (.int .i64 (lastD p l (i : Int) l.length).2.1.hi)) rfl rfl ty3 rfl)) ?_
    refine AList.g 45 40 rfl rfl rfl rfl rfl rfl rfl [(42, _), (44, _)] (fun h => And.intro (.inr ⟨_, rfl, h⟩) (And.intro (.inr ⟨_, rfl, h⟩) (trivial))) (fun h => (OpJ.add rfl rfl rfl (i64ok (by omega)))) ?_
    refine AList.g 46 40 rfl rfl rfl rfl rfl rfl rfl [(41, _), (45, _)] (fun h => And.intro (.inr ⟨_, rfl, h⟩) (And.intro (.inr ⟨_, rfl, h⟩) (trivial))) (fun h => (OpJ.lss rfl rfl rfl)) ?_
    refine AList.c 47 rfl rfl rfl (OpJ.and_ rfl rfl rfl ?_) ?_
    · first | (intro h; rw [h]; rfl) | (intro h; simp_all)
    refine AList.nil ?_
    refine AWp.cond _ rfl (fun hc1 => ?_) (fun hc1 => ?_)
    · skip
      have e : cntB (hgD p l but hour) (i + 1) = cntB (hgD p l but hour) i + 1 := if_pos hc1
      refine AWp.region ?_
      refine AList.c 48 rfl rfl rfl (OpJ.move rfl rfl) ?_
      refine AList.c 49 rfl rfl rfl (OpJ.add rfl rfl rfl (i64ok ?_)) ?_
      · omega
      refine AList.c 9 rfl rfl rfl (OpJ.assign rfl rfl) ?_
      refine AList.nil ?_
      refine AWp.region ?_
      refine AList.c 19 rfl rfl rfl (OpJ.move rfl rfl) ?_
      refine AList.c 20 rfl rfl rfl (OpJ.add rfl rfl rfl (i64ok ?_)) ?_
      · omega
      refine AList.c 10 rfl rfl rfl (OpJ.assign rfl rfl) ?_
      refine AList.nil ?_
      refine ⟨i + 1, ?_, ?_, ?_⟩
      · omega
      · omega
      rw [e]
      exact To.sub (Sub.cons rfl (Sub.cons rfl (by repeat (first | exact Sub.nil | refine Sub.cons rfl ?_))))
    · skip
      have e : cntB (hgD p l but hour) (i + 1) = cntB (hgD p l but hour) i := if_neg (by show ¬ hgD p l but hour i = true; rw [show hgD p l but hour i = false from hc1]; decide)
      refine AWp.skip ?_
      refine AWp.region ?_
      refine AList.c 19 rfl rfl rfl (OpJ.move rfl rfl) ?_
      refine AList.c 20 rfl rfl rfl (OpJ.add rfl rfl rfl (i64ok ?_)) ?_
      · omega
      refine AList.c 10 rfl rfl rfl (OpJ.assign rfl rfl) ?_
      refine AList.nil ?_
      refine ⟨i + 1, ?_, ?_, ?_⟩
      · omega
      · omega
      rw [e]
      exact To.sub (Sub.cons rfl (Sub.cons rfl (by repeat (first | exact Sub.nil | refine Sub.cons rfl ?_))))
  · skip
    obtain rfl : i = p.bs.length := by have h := of_decide_eq_false hc0; omega
    refine AWp.exit ?_
    refine AWp.seq ?_
    refine AWp.region ?_
    refine AList.c 50 rfl rfl rfl (OpJ.move rfl rfl) ?_
    refine AList.c 8 rfl rfl rfl (OpJ.assign rfl rfl) ?_
    refine AList.nil ?_
    refine AWp.ret ?_
    exact Fin.oneE rfl rfl rfl
theorem early_ok (p : Pnt) (hp : Ok p) (l : List Dp) (hG : Good p l) (hl : l.length ≤ 1000) (x : Dp) (h0 : 0 ≤ x.h) (h1 : x.h ≤ 1073741824) : Pure Try.prog 54 [pntV p, dpsV l, .agg x.cells] (.tuple [.bool (erO p l x), .bool (erS p l x), .bool (erH p l x)]) := by
  have hd := hp.dip
  have hB := lastD_B hp hG x.b l.length (Nat.le_refl _)
  refine Pure.start (N := 63) Try.func54 rfl rfl (Nat.le_of_ble_eq_true rfl) ?_
  refine AWp.seq ?_
  refine AWp.region ?_
  refine AList.c 3 rfl rfl rfl (OpJ.boxImm rfl rfl rfl) ?_
  refine AList.c 5 rfl rfl rfl (OpJ.boxImm rfl rfl rfl) ?_
  refine AList.c 6 rfl rfl rfl (OpJ.assign rfl rfl) ?_
  refine AList.c 7 rfl rfl rfl (OpJ.assign rfl rfl) ?_
  refine AList.c 8 rfl rfl rfl (OpJ.assign rfl rfl) ?_
  refine AList.nil ?_
  refine AWp.join (fun (g : Unit) => [(1, .p (dpsV l)), (3, .p (.ip (pntC p) 0)), (5, .p (.ip x.cells 0)), (6, .p (.bool (erO p l x)))]) (fun (g : Unit) => []) (fun (g : Unit) => True) ?_ (fun g hg => ?_)
  · skip
    refine AWp.seq ?_
    refine AWp.region ?_
    refine AList.c 12 rfl rfl rfl (OpJ.move rfl rfl) ?_
    refine AList.c 13 rfl rfl rfl (OpJ.lenSlice rfl rfl sl25 rfl) ?_
    refine AList.c 14 rfl rfl rfl (OpJ.gtr rfl rfl rfl) ?_
    refine AList.nil ?_
    refine AWp.cond _ rfl (fun hc0 => ?_) (fun hc0 => ?_)
    · skip
      have hl0 : 0 < l.length := by have h := of_decide_eq_true hc0; omega
      obtain ⟨k, hk, hkl, hm, hh0, hh1⟩ := hG (l.length - 1) (by omega)
      have e : erO p l x = decide (x.h < (dpt l (l.length - 1)).h + p.dip) := if_pos hl0
      refine AWp.regionDraw 14 mixed (by kernel_rfl) (by decide) ?_
      refine AQuiet.cons 15 rfl rfl rfl (OpJ.fieldAddr rfl rfl fd49_1 rfl) ?_
      refine AQuiet.cons 16 rfl rfl rfl (OpJ.load (v := .p (.int .i64 x.h)) rfl rfl ty3 rfl) ?_
      refine AQuiet.cons 17 rfl rfl rfl (OpJ.move rfl rfl) ?_
      refine AQuiet.cons 18 rfl rfl rfl (OpJ.move rfl rfl) ?_
      refine AQuiet.cons 19 rfl rfl rfl (OpJ.lenSlice rfl rfl sl25 rfl) ?_
      refine AQuiet.cons 20 rfl rfl rfl (OpJ.sub_ (m := ((l.length - 1 : Nat) : Int)) rfl rfl rfl ((i64ok ?_).trans ?_)) ?_
      · omega
      · omega
      refine AQuiet.cons 21 rfl rfl rfl (OpJ.indexG (g := dpt l) dpt_get rfl rfl rfl sl25 el25 rfl (fun _ => rfl) (by decide) (by omega)) ?_
      refine AQuiet.cons 22 rfl rfl rfl (OpJ.fieldAddr rfl rfl fd49_1 rfl) ?_
      refine AQuiet.cons 23 rfl rfl rfl (OpJ.load (v := .p (.int .i64 (dpt l (l.length - 1)).h)) rfl rfl ty3 rfl) ?_
      refine AQuiet.cons 24 rfl rfl rfl (OpJ.fieldAddr rfl rfl fd24_0 rfl) ?_
      refine AQuiet.cons 25 rfl rfl rfl (OpJ.load (v := .p (.int .i64 p.dip)) rfl rfl ty3 rfl) ?_
      refine AQuiet.cons 26 rfl rfl rfl (OpJ.add rfl rfl rfl (i64ok ?_)) ?_
      · omega
      refine AQuiet.cons 27 rfl rfl rfl (OpJ.lss rfl rfl rfl) ?_
      refine AQuiet.cons 6 rfl rfl rfl (OpJ.assign rfl rfl) ?_
      refine AQuiet.nil ?_
      refine AList.nil ?_
      exact ⟨(), trivial, To.sub (Sub.cons rfl (Sub.cons rfl (Sub.cons rfl (Sub.cons (by rw [e]; rfl) Sub.nil))))⟩
    · skip
      have hl0 : ¬ 0 < l.length := by have h := of_decide_eq_false hc0; omega
      have e : erO p l x = false := if_neg hl0
      refine AWp.skip ?_
      exact ⟨(), trivial, To.sub (Sub.cons rfl (Sub.cons rfl (Sub.cons rfl (Sub.cons (by rw [e]; rfl) Sub.nil))))⟩
  · skip
    refine AWp.seq ?_
    refine AWp.region ?_
    refine AList.c 29 rfl rfl rfl (OpJ.load (v := .p (pntV p)) rfl rfl ty24 rfl) ?_
    refine AList.c 30 rfl rfl rfl (OpJ.move rfl rfl) ?_
    refine AList.c 31 rfl rfl rfl (OpJ.fieldAddr rfl rfl fd49_0 rfl) ?_
    refine AList.c 32 rfl rfl rfl (OpJ.load (v := .p (.int .i64 x.b)) rfl rfl ty3 rfl) ?_
    refine AList.c 33 rfl rfl rfl (OpJ.callP (last_ok p hp l hG hl x.b) rfl rfl rfl rfl rf39) ?_
    refine AList.c 28 rfl rfl rfl (OpJ.move rfl rfl) ?_
    refine AList.c 34 rfl rfl rfl (OpJ.extract rfl rfl rfl) ?_
    refine AList.c 35 rfl rfl rfl (OpJ.extract rfl rfl rfl) ?_
    refine AList.c 36 rfl rfl rfl (OpJ.extract rfl rfl rfl) ?_
    refine AList.c 10 rfl rfl rfl (OpJ.allocOwn rfl zr35 rfl) ?_
    refine AList.c 9 rfl rfl rfl (OpJ.assign rfl rfl) ?_
    refine AList.c0 rfl rfl (OpJ.store (H' := [.cells ((lastD p l x.b l.length).2.1.cells.map .p) 35]) rfl rfl rfl rfl rfl ty35 rfl rfl) ?_
    refine AList.c 11 rfl rfl rfl (OpJ.assign rfl rfl) ?_
    refine AList.nil ?_
    refine AWp.seq ?_
    refine AWp.freeze 0 rfl rfl ?_
    refine AWp.norm [] [(1, _), (3, _), (5, _), (6, _), (9, _), (10, _), (11, _)] [] rfl (by repeat (first | exact Sub.nil | refine Sub.cons rfl ?_)) rfl ?_
    refine AWp.region ?_
    refine AList.c 37 rfl rfl rfl (OpJ.move rfl rfl) ?_
    refine AList.c 38 rfl rfl rfl (OpJ.move rfl rfl) ?_
    refine AList.g 39 38 rfl rfl rfl rfl rfl rfl rfl [(5, _)] (fun h => And.intro (.inl rfl) (trivial)) (fun h => (OpJ.fieldAddr rfl rfl fd49_1 rfl)) ?_
    refine AList.g 40 38 rfl rfl rfl rfl rfl rfl rfl [(39, _)] (fun h => And.intro (.inr ⟨_, rfl, h⟩) (trivial)) (fun h => (OpJ.load (v := .p (.int .i64 x.h)) rfl rfl ty3 rfl)) ?_
    refine AList.g 41 38 rfl rfl rfl rfl rfl rfl rfl [(9, _)] (fun h => And.intro (.inl rfl) (trivial)) (fun h => (OpJ.move rfl rfl)) ?_
    refine AList.g 42 38 rfl rfl rfl rfl rfl rfl rfl [(10, _)] (fun h => And.intro (.inl rfl) (trivial)) (fun h => (OpJ.fieldAddr rfl rfl fd35_1 rfl)) ?_
    refine AList.g 43 38 rfl rfl rfl rfl rfl rfl rfl [(42, _)] (fun h => And.intro (.inr ⟨_, rfl, h⟩) (trivial)) (fun h => (OpJ.load (v := .p (.int .i64 (lastD p l x.b l.length).2.1.hi)) rfl rfl ty3 rfl)) ?_
    refine AList.g 44 38 rfl rfl rfl rfl rfl rfl rfl [(41, _), (43, _)] (fun h => And.intro (.inr ⟨_, rfl, h⟩) (And.intro (.inr ⟨_, rfl, h⟩) (trivial))) (fun h => (OpJ.add rfl rfl rfl (i64ok (by omega)))) ?_
    refine AList.g 45 38 rfl rfl rfl rfl rfl rfl rfl [(40, _), (44, _)] (fun h => And.intro (.inr ⟨_, rfl, h⟩) (And.intro (.inr ⟨_, rfl, h⟩) (trivial))) (fun h => (OpJ.lss rfl rfl rfl)) ?_
    refine AList.c 46 rfl rfl rfl (OpJ.and_ rfl rfl rfl ?_) ?_
    · first | (intro h; rw [h]; rfl) | (intro h; simp_all)
    refine AList.c 7 rfl rfl rfl (OpJ.assign rfl rfl) ?_
    refine AList.nil ?_
    refine AWp.seq ?_
    refine AWp.regionDraw 14 mixed (by kernel_rfl) (by decide) ?_
    refine AQuiet.cons 47 rfl rfl rfl (OpJ.load (v := .p (pntV p)) rfl rfl ty24 rfl) ?_
    refine AQuiet.cons 48 rfl rfl rfl (OpJ.move rfl rfl) ?_
    refine AQuiet.cons 49 rfl rfl rfl (OpJ.fieldAddr rfl rfl fd49_0 rfl) ?_
    refine AQuiet.cons 50 rfl rfl rfl (OpJ.load (v := .p (.int .i64 x.b)) rfl rfl ty3 rfl) ?_
    refine AQuiet.cons 51 rfl rfl rfl (OpJ.fieldAddr rfl rfl fd49_1 rfl) ?_
    refine AQuiet.cons 52 rfl rfl rfl (OpJ.load (v := .p (.int .i64 x.h)) rfl rfl ty3 rfl) ?_
    refine AQuiet.cons 53 rfl rfl rfl (OpJ.fieldAddr rfl rfl fd24_0 rfl) ?_
    refine AQuiet.cons 54 rfl rfl rfl (OpJ.load (v := .p (.int .i64 p.dip)) rfl rfl ty3 rfl) ?_
    refine AQuiet.cons 55 rfl rfl rfl (OpJ.add rfl rfl rfl (i64ok ?_)) ?_
    · omega
    refine AQuiet.cons 56 rfl rfl rfl (OpJ.callP (rHanging_ok p hp l hG hl x.b (x.h + p.dip)) rfl rfl rfl rfl rf23) ?_
    refine AQuiet.cons 57 rfl rfl rfl (OpJ.fieldAddr rfl rfl fd24_1 rfl) ?_
    refine AQuiet.cons 58 rfl rfl rfl (OpJ.load (v := .p (.int .i64 p.racks)) rfl rfl ty3 rfl) ?_
    refine AQuiet.cons 59 rfl rfl rfl (OpJ.geq rfl rfl rfl) ?_
    refine AQuiet.cons 8 rfl rfl rfl (OpJ.assign rfl rfl) ?_
    refine AQuiet.nil ?_
    refine AList.nil ?_
    refine AWp.seq ?_
    refine AWp.region ?_
    refine AList.c 60 rfl rfl rfl (OpJ.move rfl rfl) ?_
    refine AList.c 61 rfl rfl rfl (OpJ.move rfl rfl) ?_
    refine AList.c 62 rfl rfl rfl (OpJ.move rfl rfl) ?_
    refine AList.c 6 rfl rfl rfl (OpJ.assign rfl rfl) ?_
    refine AList.c 7 rfl rfl rfl (OpJ.assign rfl rfl) ?_
    refine AList.c 8 rfl rfl rfl (OpJ.assign rfl rfl) ?_
    refine AList.nil ?_
    refine AWp.ret ?_
    exact Fin.manyE (xs := [.bool (erO p l x), .bool (erS p l x), .bool (erH p l x)]) rfl (⟨_, _, rfl, rfl, ⟨_, _, rfl, rfl, ⟨_, _, rfl, rfl, rfl⟩⟩⟩) rfl rfl
theorem late_ok (p : Pnt) (hp : Ok p) (l : List Dp) (hG : Good p l) (hl : l.length ≤ 1000) (k : Nat) (hk : k < p.bs.length) (t : Int) : Pure Try.prog 55 [pntV p, dpsV l, .agg (Dp.cells ⟨(k : Int), t⟩)] (.bool (erL p l ⟨(k : Int), t⟩)) := by
  have hB := lastD_B hp hG (k : Int) l.length (Nat.le_refl _)
  have hlt := hp.late _ (cot_mem hk)
  refine Pure.start (N := 37) Try.func55 rfl rfl (Nat.le_of_ble_eq_true rfl) ?_
  refine AWp.seq ?_
  refine AWp.region ?_
  refine AList.c 3 rfl rfl rfl (OpJ.boxImm rfl rfl rfl) ?_
  refine AList.c 5 rfl rfl rfl (OpJ.boxImm rfl rfl rfl) ?_
  refine AList.c 6 rfl rfl rfl (OpJ.assign rfl rfl) ?_
  refine AList.nil ?_
  refine AWp.seq ?_
  refine AWp.region ?_
  refine AList.c 11 rfl rfl rfl (OpJ.load (v := .p (pntV p)) rfl rfl ty24 rfl) ?_
  refine AList.c 12 rfl rfl rfl (OpJ.move rfl rfl) ?_
  refine AList.c 13 rfl rfl rfl (OpJ.fieldAddr rfl rfl fd49_0 rfl) ?_
  refine AList.c 14 rfl rfl rfl (OpJ.load (v := .p (.int .i64 ((k : Nat) : Int))) rfl rfl ty3 rfl) ?_
  refine AList.c 15 rfl rfl rfl (OpJ.callP (last_ok p hp l hG hl (k : Int)) rfl rfl rfl rfl rf39) ?_
  refine AList.c 10 rfl rfl rfl (OpJ.move rfl rfl) ?_
  refine AList.c 16 rfl rfl rfl (OpJ.extract rfl rfl rfl) ?_
  refine AList.c 17 rfl rfl rfl (OpJ.extract rfl rfl rfl) ?_
  refine AList.c 18 rfl rfl rfl (OpJ.extract rfl rfl rfl) ?_
  refine AList.c 8 rfl rfl rfl (OpJ.allocOwn rfl zr35 rfl) ?_
  refine AList.c 7 rfl rfl rfl (OpJ.assign rfl rfl) ?_
  refine AList.c0 rfl rfl (OpJ.store (H' := [.cells ((lastD p l (k : Int) l.length).2.1.cells.map .p) 35]) rfl rfl rfl rfl rfl ty35 rfl rfl) ?_
  refine AList.c 9 rfl rfl rfl (OpJ.assign rfl rfl) ?_
  refine AList.nil ?_
  refine AWp.seq ?_
  refine AWp.freeze 0 rfl rfl ?_
  refine AWp.norm [] [(1, _), (3, _), (5, _), (7, _), (8, _), (9, _)] [] rfl (by repeat (first | exact Sub.nil | refine Sub.cons rfl ?_)) rfl ?_
  refine AWp.regionDraw 19 mixed (by kernel_rfl) (by decide) ?_
  refine AQuiet.cons 19 rfl rfl rfl (OpJ.move rfl rfl) ?_
  refine AQuiet.cons 20 rfl rfl rfl (OpJ.move rfl rfl) ?_
  refine AQuiet.guard 21 20 rfl rfl rfl rfl rfl rfl rfl [(5, _)] (fun h => And.intro (.inl rfl) (trivial)) (fun h => (OpJ.fieldAddr rfl rfl fd49_1 rfl)) ?_
  refine AQuiet.guard 22 20 rfl rfl rfl rfl rfl rfl rfl [(21, _)] (fun h => And.intro (.inr ⟨_, rfl, h⟩) (trivial)) (fun h => (OpJ.load (v := .p (.int .i64 t)) rfl rfl ty3 rfl)) ?_
  refine AQuiet.guard 23 20 rfl rfl rfl rfl rfl rfl rfl [(7, _)] (fun h => And.intro (.inl rfl) (trivial)) (fun h => (OpJ.move rfl rfl)) ?_
  refine AQuiet.guard 24 20 rfl rfl rfl rfl rfl rfl rfl [(8, _)] (fun h => And.intro (.inl rfl) (trivial)) (fun h => (OpJ.fieldAddr rfl rfl fd35_0 rfl)) ?_
  refine AQuiet.guard 25 20 rfl rfl rfl rfl rfl rfl rfl [(24, _)] (fun h => And.intro (.inr ⟨_, rfl, h⟩) (trivial)) (fun h => (OpJ.load (v := .p (.int .i64 (lastD p l (k : Int) l.length).2.1.lo)) rfl rfl ty3 rfl)) ?_
  refine AQuiet.guard 26 20 rfl rfl rfl rfl rfl rfl rfl [(23, _), (25, _)] (fun h => And.intro (.inr ⟨_, rfl, h⟩) (And.intro (.inr ⟨_, rfl, h⟩) (trivial))) (fun h => (OpJ.add rfl rfl rfl (i64ok (by omega)))) ?_
  refine AQuiet.guard 27 20 rfl rfl rfl rfl rfl rfl rfl [(3, _)] (fun h => And.intro (.inl rfl) (trivial)) (fun h => (OpJ.fieldAddr rfl rfl fd24_2 rfl)) ?_
  refine AQuiet.guard 28 20 rfl rfl rfl rfl rfl rfl rfl [(27, _)] (fun h => And.intro (.inr ⟨_, rfl, h⟩) (trivial)) (fun h => (OpJ.load (v := .p (cotsV p.bs)) rfl rfl ty22 rfl)) ?_
  refine AQuiet.guard 29 20 rfl rfl rfl rfl rfl rfl rfl [(5, _)] (fun h => And.intro (.inl rfl) (trivial)) (fun h => (OpJ.fieldAddr rfl rfl fd49_0 rfl)) ?_
  refine AQuiet.guard 30 20 rfl rfl rfl rfl rfl rfl rfl [(29, _)] (fun h => And.intro (.inr ⟨_, rfl, h⟩) (trivial)) (fun h => (OpJ.load (v := .p (.int .i64 ((k : Nat) : Int))) rfl rfl ty3 rfl)) ?_
  refine AQuiet.guard 31 20 rfl rfl rfl rfl rfl rfl rfl [(28, _), (30, _)] (fun h => And.intro (.inr ⟨_, rfl, h⟩) (And.intro (.inr ⟨_, rfl, h⟩) (trivial))) (fun h => (OpJ.indexG (g := cot p.bs) cot_get rfl rfl rfl sl22 el22 rfl (fun _ => rfl) (by decide) hk)) ?_
  refine AQuiet.guard 32 20 rfl rfl rfl rfl rfl rfl rfl [(31, _)] (fun h => And.intro (.inr ⟨_, rfl, h⟩) (trivial)) (fun h => (OpJ.fieldAddr rfl rfl fd52_1 rfl)) ?_
  refine AQuiet.guard 33 20 rfl rfl rfl rfl rfl rfl rfl [(32, _)] (fun h => And.intro (.inr ⟨_, rfl, h⟩) (trivial)) (fun h => (OpJ.load (v := .p (.int .i64 (cot p.bs k).late)) rfl rfl ty3 rfl)) ?_
  refine AQuiet.guard 34 20 rfl rfl rfl rfl rfl rfl rfl [(26, _), (33, _)] (fun h => And.intro (.inr ⟨_, rfl, h⟩) (And.intro (.inr ⟨_, rfl, h⟩) (trivial))) (fun h => (OpJ.add rfl rfl rfl (i64ok (by omega)))) ?_
  refine AQuiet.guard 35 20 rfl rfl rfl rfl rfl rfl rfl [(22, _), (34, _)] (fun h => And.intro (.inr ⟨_, rfl, h⟩) (And.intro (.inr ⟨_, rfl, h⟩) (trivial))) (fun h => (OpJ.gtr rfl rfl rfl)) ?_
  refine AQuiet.cons 36 rfl rfl rfl (OpJ.and_ rfl rfl rfl ?_) ?_
  · first | (intro h; rw [h]; rfl) | (intro h; simp_all)
  refine AQuiet.cons 6 rfl rfl rfl (OpJ.assign rfl rfl) ?_
  refine AQuiet.nil ?_
  refine AList.nil ?_
  refine AWp.ret ?_
  exact Fin.oneE rfl rfl rfl
end Go.Proofs.Ytibgdkaipleajaa
end

section
set_option linter.unusedVariables false
set_option maxRecDepth 100000
set_option maxHeartbeats 4000000
set_option linter.unusedSimpArgs false
namespace Go.Proofs.Ytibgdkaipleajaa
open Go.AF
theorem right_ok (p : Pnt) (hp : Ok p) (l : List Dp) (hG : Good p l) (hl : l.length ≤ 1000) (x : Dp) : Pure Try.prog 34 [pntV p, dpsV l, .agg x.cells] (.int .i64 (rgtE p l x)) := by
  have hn4 := hp.n
  refine Pure.start (N := 52) Try.func34 rfl rfl (Nat.le_of_ble_eq_true rfl) ?_
  refine AWp.seq ?_
  refine AWp.region ?_
  refine AList.c 3 rfl rfl rfl (OpJ.boxImm rfl rfl rfl) ?_
  refine AList.c 5 rfl rfl rfl (OpJ.boxImm rfl rfl rfl) ?_
  refine AList.c 6 rfl rfl rfl (OpJ.assign rfl rfl) ?_
  refine AList.nil ?_
  refine AWp.seq ?_
  refine AWp.seq ?_
  refine AWp.region ?_
  refine AList.c 10 rfl rfl rfl (OpJ.fieldAddr rfl rfl fd49_0 rfl) ?_
  refine AList.c 11 rfl rfl rfl (OpJ.load (v := .p (.int .i64 x.b)) rfl rfl ty3 rfl) ?_
  refine AList.c 12 rfl rfl rfl (OpJ.fieldAddr rfl rfl fd24_2 rfl) ?_
  refine AList.c 13 rfl rfl rfl (OpJ.load (v := .p (cotsV p.bs)) rfl rfl ty22 rfl) ?_
  refine AList.c 14 rfl rfl rfl (OpJ.lenSlice rfl rfl sl22 rfl) ?_
  refine AList.c 15 rfl rfl rfl (OpJ.sub_ rfl rfl rfl (i64ok ?_)) ?_
  · omega
  refine AList.c 16 rfl rfl rfl (OpJ.callP (in_ok _ _ _) rfl rfl rfl rfl rf38) ?_
  refine AList.c 17 rfl rfl rfl (OpJ.not_ rfl rfl) ?_
  refine AList.c 18 rfl rfl rfl (OpJ.move rfl rfl) ?_
  refine AList.g 19 18 rfl rfl rfl rfl rfl rfl rfl [(5, _)] (fun h => And.intro (.inl rfl) (trivial)) (fun h => (OpJ.fieldAddr rfl rfl fd49_1 rfl)) ?_
  refine AList.g 20 18 rfl rfl rfl rfl rfl rfl rfl [(19, _)] (fun h => And.intro (.inr ⟨_, rfl, h⟩) (trivial)) (fun h => (OpJ.load (v := .p (.int .i64 x.h)) rfl rfl ty3 rfl)) ?_
  refine AList.g 21 18 rfl rfl rfl rfl rfl rfl rfl [(20, _)] (fun h => And.intro (.inr ⟨_, rfl, h⟩) (trivial)) (fun h => (OpJ.callP (in_ok _ _ _) rfl rfl rfl rfl rf38)) ?_
  refine AList.g 22 18 rfl rfl rfl rfl rfl rfl rfl [(21, _)] (fun h => And.intro (.inr ⟨_, rfl, h⟩) (trivial)) (fun h => (OpJ.not_ rfl rfl)) ?_
  refine AList.c 23 rfl rfl rfl (OpJ.or_ rfl rfl rfl ?_) ?_
  · first | (intro h; rw [h]; rfl) | (intro h; simp_all)
  refine AList.nil ?_
  refine AWp.cond _ rfl (fun hc0 => ?_) (fun hc0 => ?_)
  · skip
    have e : rgtE p l x = 2 := if_pos hc0
    rw [e]
    refine AWp.seq ?_
    refine AWp.region ?_
    refine AList.c 6 rfl rfl rfl (OpJ.assign rfl rfl) ?_
    refine AList.nil ?_
    refine AWp.ret ?_
    exact Fin.oneE rfl rfl rfl
  · skip
    have n0 : (!inB x.b 0 ((p.bs.length : Int) - 1) || !inB x.h 0 1048576) = false := hc0
    obtain ⟨k, hxk, hk, ht0, ht1⟩ := rgt_in n0
    obtain ⟨xb, t⟩ := x
    dsimp only at hxk ht0 ht1
    subst hxk
    have m0 : ¬ (!inB (k : Int) 0 ((p.bs.length : Int) - 1) || !inB t 0 1048576) = true := by rw [show (!inB (k : Int) 0 ((p.bs.length : Int) - 1) || !inB t 0 1048576) = false from n0]; decide
    refine AWp.skip ?_
    refine AWp.seq ?_
    refine AWp.seq ?_
    refine AWp.regionDraw 13 mixed (by kernel_rfl) (by decide) ?_
    refine AQuiet.cons 24 rfl rfl rfl (OpJ.move rfl rfl) ?_
    refine AQuiet.cons 25 rfl rfl rfl (OpJ.fieldAddr rfl rfl fd49_0 rfl) ?_
    refine AQuiet.cons 26 rfl rfl rfl (OpJ.load (v := .p (.int .i64 ((k : Nat) : Int))) rfl rfl ty3 rfl) ?_
    refine AQuiet.cons 27 rfl rfl rfl (OpJ.callP (many_ok l (k : Int) (by unfold bigN; omega)) rfl rfl rfl rfl rf53) ?_
    refine AQuiet.cons 28 rfl rfl rfl (OpJ.fieldAddr rfl rfl fd24_2 rfl) ?_
    refine AQuiet.cons 29 rfl rfl rfl (OpJ.load (v := .p (cotsV p.bs)) rfl rfl ty22 rfl) ?_
    refine AQuiet.cons 30 rfl rfl rfl (OpJ.fieldAddr rfl rfl fd49_0 rfl) ?_
    refine AQuiet.cons 31 rfl rfl rfl (OpJ.load (v := .p (.int .i64 ((k : Nat) : Int))) rfl rfl ty3 rfl) ?_
    refine AQuiet.cons 32 rfl rfl rfl (OpJ.indexG (g := cot p.bs) cot_get rfl rfl rfl sl22 el22 rfl (fun _ => rfl) (by decide) hk) ?_
    refine AQuiet.cons 33 rfl rfl rfl (OpJ.fieldAddr rfl rfl fd52_0 rfl) ?_
    refine AQuiet.cons 34 rfl rfl rfl (OpJ.load (v := .p (spnsV (cot p.bs k).dry)) rfl rfl ty50 rfl) ?_
    refine AQuiet.cons 35 rfl rfl rfl (OpJ.lenSlice rfl rfl sl50 rfl) ?_
    refine AQuiet.cons 36 rfl rfl rfl (OpJ.geq rfl rfl rfl) ?_
    refine AQuiet.nil ?_
    refine AList.nil ?_
    refine AWp.cond _ rfl (fun hc1 => ?_) (fun hc1 => ?_)
    · skip
      have q : manyD l (k : Int) l.length ≥ (cot p.bs (k : Int).toNat).dry.length := by have h := of_decide_eq_true hc1; show (cot p.bs k).dry.length ≤ _; omega
      have e : rgtE p l ⟨(k : Int), t⟩ = 9 := (if_neg m0).trans (if_pos q)
      rw [e]
      refine AWp.seq ?_
      refine AWp.region ?_
      refine AList.c 6 rfl rfl rfl (OpJ.assign rfl rfl) ?_
      refine AList.nil ?_
      refine AWp.ret ?_
      exact Fin.oneE rfl rfl rfl
    · skip
      have m1 : ¬ manyD l (k : Int) l.length ≥ (cot p.bs (k : Int).toNat).dry.length := by have h := of_decide_eq_false hc1; show ¬ (cot p.bs k).dry.length ≤ _; omega
      refine AWp.skip ?_
      refine AWp.seq ?_
      refine AWp.region ?_
      refine AList.c 38 rfl rfl rfl (OpJ.load (v := .p (pntV p)) rfl rfl ty24 rfl) ?_
      refine AList.c 39 rfl rfl rfl (OpJ.move rfl rfl) ?_
      refine AList.c 40 rfl rfl rfl (OpJ.load (v := .p (.agg (Dp.cells ⟨(k : Int), t⟩))) rfl rfl ty49 rfl) ?_
      refine AList.c 41 rfl rfl rfl (OpJ.callP (early_ok p hp l hG hl ⟨(k : Int), t⟩ ht0 (by show t ≤ 1073741824; omega)) rfl rfl rfl rfl rf54) ?_
      refine AList.c 37 rfl rfl rfl (OpJ.move rfl rfl) ?_
      refine AList.c 42 rfl rfl rfl (OpJ.extract rfl rfl rfl) ?_
      refine AList.c 43 rfl rfl rfl (OpJ.extract rfl rfl rfl) ?_
      refine AList.c 44 rfl rfl rfl (OpJ.extract rfl rfl rfl) ?_
      refine AList.c 7 rfl rfl rfl (OpJ.assign rfl rfl) ?_
      refine AList.c 8 rfl rfl rfl (OpJ.assign rfl rfl) ?_
      refine AList.c 9 rfl rfl rfl (OpJ.assign rfl rfl) ?_
      refine AList.nil ?_
      refine AWp.seq ?_
      refine AWp.seq ?_
      refine AWp.region ?_
      refine AList.c 45 rfl rfl rfl (OpJ.move rfl rfl) ?_
      refine AList.nil ?_
      refine AWp.cond _ rfl (fun hc2 => ?_) (fun hc2 => ?_)
      · skip
        have e : rgtE p l ⟨(k : Int), t⟩ = 7 := (if_neg m0).trans ((if_neg m1).trans (if_pos hc2))
        rw [e]
        refine AWp.seq ?_
        refine AWp.region ?_
        refine AList.c 6 rfl rfl rfl (OpJ.assign rfl rfl) ?_
        refine AList.nil ?_
        refine AWp.ret ?_
        exact Fin.oneE rfl rfl rfl
      · skip
        have m2 : ¬ erO p l ⟨(k : Int), t⟩ = true := by rw [show erO p l ⟨(k : Int), t⟩ = false from hc2]; decide
        refine AWp.skip ?_
        refine AWp.seq ?_
        refine AWp.seq ?_
        refine AWp.region ?_
        refine AList.c 46 rfl rfl rfl (OpJ.move rfl rfl) ?_
        refine AList.nil ?_
        refine AWp.cond _ rfl (fun hc3 => ?_) (fun hc3 => ?_)
        · skip
          have e : rgtE p l ⟨(k : Int), t⟩ = 6 := (if_neg m0).trans ((if_neg m1).trans ((if_neg m2).trans (if_pos hc3)))
          rw [e]
          refine AWp.seq ?_
          refine AWp.region ?_
          refine AList.c 6 rfl rfl rfl (OpJ.assign rfl rfl) ?_
          refine AList.nil ?_
          refine AWp.ret ?_
          exact Fin.oneE rfl rfl rfl
        · skip
          have m3 : ¬ erS p l ⟨(k : Int), t⟩ = true := by rw [show erS p l ⟨(k : Int), t⟩ = false from hc3]; decide
          refine AWp.skip ?_
          refine AWp.seq ?_
          refine AWp.seq ?_
          refine AWp.region ?_
          refine AList.c 47 rfl rfl rfl (OpJ.load (v := .p (pntV p)) rfl rfl ty24 rfl) ?_
          refine AList.c 48 rfl rfl rfl (OpJ.move rfl rfl) ?_
          refine AList.c 49 rfl rfl rfl (OpJ.load (v := .p (.agg (Dp.cells ⟨(k : Int), t⟩))) rfl rfl ty49 rfl) ?_
          refine AList.c 50 rfl rfl rfl (OpJ.callP (late_ok p hp l hG hl k hk t) rfl rfl rfl rfl rf55) ?_
          refine AList.nil ?_
          refine AWp.cond _ rfl (fun hc4 => ?_) (fun hc4 => ?_)
          · skip
            have e : rgtE p l ⟨(k : Int), t⟩ = 11 := (if_neg m0).trans ((if_neg m1).trans ((if_neg m2).trans ((if_neg m3).trans (if_pos hc4))))
            rw [e]
            refine AWp.seq ?_
            refine AWp.region ?_
            refine AList.c 6 rfl rfl rfl (OpJ.assign rfl rfl) ?_
            refine AList.nil ?_
            refine AWp.ret ?_
            exact Fin.oneE rfl rfl rfl
          · skip
            have m4 : ¬ erL p l ⟨(k : Int), t⟩ = true := by rw [show erL p l ⟨(k : Int), t⟩ = false from hc4]; decide
            refine AWp.skip ?_
            refine AWp.seq ?_
            refine AWp.seq ?_
            refine AWp.region ?_
            refine AList.c 51 rfl rfl rfl (OpJ.move rfl rfl) ?_
            refine AList.nil ?_
            refine AWp.cond _ rfl (fun hc5 => ?_) (fun hc5 => ?_)
            · skip
              have e : rgtE p l ⟨(k : Int), t⟩ = 10 := (if_neg m0).trans ((if_neg m1).trans ((if_neg m2).trans ((if_neg m3).trans ((if_neg m4).trans (if_pos hc5)))))
              rw [e]
              refine AWp.seq ?_
              refine AWp.region ?_
              refine AList.c 6 rfl rfl rfl (OpJ.assign rfl rfl) ?_
              refine AList.nil ?_
              refine AWp.ret ?_
              exact Fin.oneE rfl rfl rfl
            · skip
              have m5 : ¬ erH p l ⟨(k : Int), t⟩ = true := by rw [show erH p l ⟨(k : Int), t⟩ = false from hc5]; decide
              have e : rgtE p l ⟨(k : Int), t⟩ = 0 := (if_neg m0).trans ((if_neg m1).trans ((if_neg m2).trans ((if_neg m3).trans ((if_neg m4).trans (if_neg m5)))))
              rw [e]
              refine AWp.skip ?_
              refine AWp.seq ?_
              refine AWp.region ?_
              refine AList.c 6 rfl rfl rfl (OpJ.assign rfl rfl) ?_
              refine AList.nil ?_
              refine AWp.ret ?_
              exact Fin.oneE rfl rfl rfl
end Go.Proofs.Ytibgdkaipleajaa
end

section
set_option linter.unusedVariables false
set_option maxRecDepth 100000
set_option maxHeartbeats 4000000
set_option linter.unusedSimpArgs false
namespace Go.Proofs.Ytibgdkaipleajaa
open Go.AF
theorem right_T {p : Pnt} (hp : Ok p) {l : List Dp} (hl : l.length ≤ 1000) {i : Nat} (hi : i ≤ l.length) (hA : AllOk p l i) : Pure Try.prog 34 [pntV p, dpsV (l.take i), .agg (dpt l i).cells] (.int .i64 (chkE p (csN p l i) (dpt l i))) := by
  have h := right_ok p hp (l.take i) (good_take hi hA) (by rw [List.length_take]; omega) (dpt l i)
  rwa [rgt_chk hp hi hA] at h
theorem rCheck_ok (p : Pnt) (l : List Dp) (hb : p.bs.length ≤ 8) (hbd : ∀ b ∈ p.bs, b.dry.length ≤ 14) (hl : l.length ≤ 1000) : Pure Try.prog 12 [pntV p, dpsV l] (chkV (chkR p l)) := by
  refine Pure.start (N := 39) Try.func12 rfl rfl (Nat.le_of_ble_eq_true rfl) ?_
  refine AWp.seq ?_
  refine AWp.region ?_
  refine AList.c 2 rfl rfl rfl (OpJ.boxImm rfl rfl rfl) ?_
  refine AList.c 4 rfl rfl rfl (OpJ.assign rfl rfl) ?_
  refine AList.c 5 rfl rfl rfl (OpJ.assign rfl rfl) ?_
  refine AList.nil ?_
  refine AWp.seq ?_
  refine AWp.seq ?_
  refine AWp.region ?_
  refine AList.c 8 rfl rfl rfl (OpJ.load (v := .p (pntV p)) rfl rfl ty24 rfl) ?_
  refine AList.c 9 rfl rfl rfl (OpJ.callP (rPaint_ok p hb hbd) rfl rfl rfl rfl rf20) ?_
  refine AList.c 10 rfl rfl rfl (OpJ.not_ rfl rfl) ?_
  refine AList.nil ?_
  refine AWp.cond _ rfl (fun hc0 => ?_) (fun hc0 => ?_)
  · skip
    have hf : pntB p = false := by simpa using hc0
    rw [chk_arg l hf]
    refine AWp.seq ?_
    refine AWp.region ?_
    refine AList.c 4 rfl rfl rfl (OpJ.assign rfl rfl) ?_
    refine AList.c 5 rfl rfl rfl (OpJ.assign rfl rfl) ?_
    refine AList.nil ?_
    refine AWp.ret ?_
    exact Fin.manyE (xs := [.int .i64 0, .int .i64 1]) rfl (⟨_, _, rfl, rfl, ⟨_, _, rfl, rfl, rfl⟩⟩) rfl rfl
  · skip
    have hT : pntB p = true := by simpa using hc0
    have hp := pnt_ok hT
    refine AWp.skip ?_
    refine AWp.seq ?_
    refine AWp.seq ?_
    refine AWp.region ?_
    refine AList.c 6 rfl rfl rfl (OpJ.assign rfl rfl) ?_
    refine AList.nil ?_
    refine AWp.block ?_
    refine AWp.loopKL [1, 2, 30, 31, 32, 33, 34, 35, 36, 37, 38] (fun g => [(6, .p (.int .i64 ((g : Nat) : Int)))]) (fun g => g ≤ l.length ∧ AllOk p l g) (fun g => l.length - g) 0 ⟨Nat.zero_le _, fun j hj => absurd hj (by omega)⟩ (Sub.cons rfl (Sub.nil)) (fun i hg => ?_)
    obtain ⟨hg1, hg2⟩ := hg
    refine AWp.seq ?_
    refine AWp.seq ?_
    refine AWp.region ?_
    refine AList.c 11 rfl rfl rfl (OpJ.move rfl rfl) ?_
    refine AList.c 12 rfl rfl rfl (OpJ.move rfl rfl) ?_
    refine AList.c 13 rfl rfl rfl (OpJ.lenSlice rfl rfl sl25 rfl) ?_
    refine AList.c 14 rfl rfl rfl (OpJ.lss rfl rfl rfl) ?_
    refine AList.nil ?_
    refine AWp.cond _ rfl (fun hc1 => ?_) (fun hc1 => ?_)
    · skip
      have hk0 : i < l.length := by have h := of_decide_eq_true hc1; omega
      refine AWp.skip ?_
      refine AWp.seq ?_
      refine AWp.block ?_
      refine AWp.seq ?_
      refine AWp.regionDraw 10 mixed (by kernel_rfl) (by decide) ?_
      refine AQuiet.cons 17 rfl rfl rfl (OpJ.load (v := .p (pntV p)) rfl rfl ty24 rfl) ?_
      refine AQuiet.cons 18 rfl rfl rfl (OpJ.move rfl rfl) ?_
      refine AQuiet.cons 19 rfl rfl rfl (OpJ.move rfl rfl) ?_
      refine AQuiet.cons 20 rfl rfl rfl (OpJ.sliceIs (l := 0) (h := i) (r := ((l.take i).flatMap Dp.cells)) rfl rfl sl25 el25 rfl ⟨_, rfl⟩ (by omega) (by omega) (takeD l i)) ?_
      rw [cutD l (by omega)]
      refine AQuiet.cons 21 rfl rfl rfl (OpJ.move rfl rfl) ?_
      refine AQuiet.cons 22 rfl rfl rfl (OpJ.move rfl rfl) ?_
      refine AQuiet.cons 23 rfl rfl rfl (OpJ.indexG (g := dpt l) dpt_get rfl rfl rfl sl25 el25 rfl (fun _ => rfl) (by decide) hk0) ?_
      refine AQuiet.cons 24 rfl rfl rfl (OpJ.load (v := .p (.agg (dpt l i).cells)) rfl rfl ty49 rfl) ?_
      refine AQuiet.cons 25 rfl rfl rfl (OpJ.callP (right_T hp hl (by omega) hg2) rfl rfl rfl rfl rf34) ?_
      refine AQuiet.cons 7 rfl rfl rfl (OpJ.assign rfl rfl) ?_
      refine AQuiet.nil ?_
      refine AList.nil ?_
      refine AWp.seq ?_
      refine AWp.region ?_
      refine AList.c 26 rfl rfl rfl (OpJ.move rfl rfl) ?_
      refine AList.c 27 rfl rfl rfl (OpJ.neq rfl rfl rfl) ?_
      refine AList.nil ?_
      refine AWp.cond _ rfl (fun hc2 => ?_) (fun hc2 => ?_)
      · skip
        have he : ¬ chkE p (csN p l i) (dpt l i) = 0 := by simpa using hc2
        rw [chk_err hT hk0 hg2 he]
        refine AWp.seq ?_
        refine AWp.region ?_
        refine AList.c 28 rfl rfl rfl (OpJ.move rfl rfl) ?_
        refine AList.c 29 rfl rfl rfl (OpJ.move rfl rfl) ?_
        refine AList.c 4 rfl rfl rfl (OpJ.assign rfl rfl) ?_
        refine AList.c 5 rfl rfl rfl (OpJ.assign rfl rfl) ?_
        refine AList.nil ?_
        refine AWp.ret ?_
        exact Fin.manyE (xs := [.int .i64 (i : Int), .int .i64 (chkE p (csN p l i) (dpt l i))]) rfl (⟨_, _, rfl, rfl, ⟨_, _, rfl, rfl, rfl⟩⟩) rfl rfl
      · skip
        have he : chkE p (csN p l i) (dpt l i) = 0 := by simpa using hc2
        refine AWp.skip ?_
        refine AWp.region ?_
        refine AList.c 15 rfl rfl rfl (OpJ.move rfl rfl) ?_
        refine AList.c 16 rfl rfl rfl (OpJ.add rfl rfl rfl (i64ok ?_)) ?_
        · omega
        refine AList.c 6 rfl rfl rfl (OpJ.assign rfl rfl) ?_
        refine AList.nil ?_
        refine ⟨i + 1, ?_, ?_, ?_⟩
        · refine ⟨by omega, fun j hj => ?_⟩
          rcases Nat.lt_succ_iff_lt_or_eq.1 hj with h1 | rfl
          · exact hg2 j h1
          · exact he
        · omega
        exact To.done [] rfl (by repeat (first | exact Sub.nil | refine Sub.cons rfl ?_)) rfl
    · skip
      obtain rfl : i = l.length := by have h := of_decide_eq_false hc1; omega
      rw [chk_end hT hg2]
      refine AWp.exit ?_
      refine AWp.seq ?_
      refine AWp.seq ?_
      refine AWp.region ?_
      refine AList.c 30 rfl rfl rfl (OpJ.move rfl rfl) ?_
      refine AList.c 31 rfl rfl rfl (OpJ.lenSlice rfl rfl sl25 rfl) ?_
      refine AList.c 32 rfl rfl rfl (OpJ.load (v := .p (pntV p)) rfl rfl ty24 rfl) ?_
      refine AList.c 33 rfl rfl rfl (OpJ.callP (all_ok p (big14 (by omega)) (sums_ok hb hbd)) rfl rfl rfl rfl rf35) ?_
      refine AList.c 34 rfl rfl rfl (OpJ.lss rfl rfl rfl) ?_
      refine AList.nil ?_
      refine AWp.cond _ rfl (fun hc3 => ?_) (fun hc3 => ?_)
      · skip
        rw [if_pos (of_decide_eq_true hc3)]
        refine AWp.seq ?_
        refine AWp.region ?_
        refine AList.c 35 rfl rfl rfl (OpJ.move rfl rfl) ?_
        refine AList.c 36 rfl rfl rfl (OpJ.lenSlice rfl rfl sl25 rfl) ?_
        refine AList.c 4 rfl rfl rfl (OpJ.assign rfl rfl) ?_
        refine AList.c 5 rfl rfl rfl (OpJ.assign rfl rfl) ?_
        refine AList.nil ?_
        refine AWp.ret ?_
        exact Fin.manyE (xs := [.int .i64 (l.length : Int), .int .i64 4]) rfl (⟨_, _, rfl, rfl, ⟨_, _, rfl, rfl, rfl⟩⟩) rfl rfl
      · skip
        rw [if_neg (of_decide_eq_false hc3)]
        refine AWp.skip ?_
        refine AWp.seq ?_
        refine AWp.region ?_
        refine AList.c 37 rfl rfl rfl (OpJ.move rfl rfl) ?_
        refine AList.c 38 rfl rfl rfl (OpJ.lenSlice rfl rfl sl25 rfl) ?_
        refine AList.c 4 rfl rfl rfl (OpJ.assign rfl rfl) ?_
        refine AList.c 5 rfl rfl rfl (OpJ.assign rfl rfl) ?_
        refine AList.nil ?_
        refine AWp.ret ?_
        exact Fin.manyE (xs := [.int .i64 (l.length : Int), .int .i64 0]) rfl (⟨_, _, rfl, rfl, ⟨_, _, rfl, rfl, rfl⟩⟩) rfl rfl
end Go.Proofs.Ytibgdkaipleajaa
end
