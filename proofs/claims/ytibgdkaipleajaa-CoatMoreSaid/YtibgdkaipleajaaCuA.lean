/-
  What is valid.
  What a shop looks at, and a dip.
  When batches leave their racks, one after the other.
  Numbers in order.
  The numbers that a function yields, in order.
-/
import Derived.Test.YtibgdkaipleajaaCuF
import Derived.Test.YtibgdkaipleajaaCuP
import Derived.Test.YtibgdkaipleajaaAgD
section
set_option linter.unusedVariables false
set_option maxRecDepth 100000
set_option maxHeartbeats 4000000
set_option linter.unusedSimpArgs false
namespace Go.Proofs.Ytibgdkaipleajaa
open Go.AF
theorem within_ok (n lo hi : Int) : Pure Try.prog 46 [.int .i64 n, .int .i64 lo, .int .i64 hi] (.bool (inB n lo hi)) := by
  refine Pure.start (N := 15) Try.func46 rfl rfl (Nat.le_of_ble_eq_true rfl) ?_
  refine AWp.seq ?_
  refine AWp.region ?_
  refine AList.c 6 rfl rfl rfl (OpJ.assign rfl rfl) ?_
  refine AList.nil ?_
  refine AWp.seq ?_
  refine AWp.region ?_
  refine AList.c 7 rfl rfl rfl (OpJ.move rfl rfl) ?_
  refine AList.c 8 rfl rfl rfl (OpJ.move rfl rfl) ?_
  refine AList.c 9 rfl rfl rfl (OpJ.leq rfl rfl rfl) ?_
  refine AList.c 10 rfl rfl rfl (OpJ.move rfl rfl) ?_
  refine AList.g 11 10 rfl rfl rfl rfl rfl rfl rfl [(0, _)] (fun h => And.intro (.inl rfl) (trivial)) (fun h => (OpJ.move rfl rfl)) ?_
  refine AList.g 12 10 rfl rfl rfl rfl rfl rfl rfl [(2, _)] (fun h => And.intro (.inl rfl) (trivial)) (fun h => (OpJ.move rfl rfl)) ?_
  refine AList.g 13 10 rfl rfl rfl rfl rfl rfl rfl [(11, _), (12, _)] (fun h => And.intro (.inr ⟨_, rfl, h⟩) (And.intro (.inr ⟨_, rfl, h⟩) (trivial))) (fun h => (OpJ.leq rfl rfl rfl)) ?_
  refine AList.c 14 rfl rfl rfl (OpJ.and_ rfl rfl rfl ?_) ?_
  · first | (intro h; rw [h]; rfl) | (intro h; simp_all)
  refine AList.c 6 rfl rfl rfl (OpJ.assign rfl rfl) ?_
  refine AList.nil ?_
  refine AWp.ret ?_
  exact Fin.one rfl (rfl)
theorem isHour_ok (n : Int) : Pure Try.prog 29 [.int .i64 n] (.bool (inB n 0 1048576)) := by
  refine Pure.start (N := 5) Try.func29 rfl rfl (Nat.le_of_ble_eq_true rfl) ?_
  refine AWp.seq ?_
  refine AWp.region ?_
  refine AList.c 2 rfl rfl rfl (OpJ.assign rfl rfl) ?_
  refine AList.nil ?_
  refine AWp.seq ?_
  refine AWp.region ?_
  refine AList.c 3 rfl rfl rfl (OpJ.move rfl rfl) ?_
  refine AList.c 4 rfl rfl rfl (OpJ.callP (within_ok _ _ _) rfl rfl rfl rfl rf46) ?_
  refine AList.c 2 rfl rfl rfl (OpJ.assign rfl rfl) ?_
  refine AList.nil ?_
  refine AWp.ret ?_
  exact Fin.one rfl (rfl)
theorem coatsOf_ok (p : Pnt) (hb : p.bs.length ≤ bigN) (hs : ∀ k, k ≤ p.bs.length → sumD p.bs k ≤ bigN) : Pure Try.prog 33 [pntV p] (.int .i64 ((coats p : Nat) : Int)) := by
  have hb2 := hb
  unfold bigN at hb2
  refine Pure.start (N := 19) Try.func33 rfl rfl (Nat.le_of_ble_eq_true rfl) ?_
  refine AWp.seq ?_
  refine AWp.region ?_
  refine AList.c 1 rfl rfl rfl (OpJ.boxImm rfl rfl rfl) ?_
  refine AList.c 2 rfl rfl rfl (OpJ.assign rfl rfl) ?_
  refine AList.nil ?_
  refine AWp.seq ?_
  refine AWp.seq ?_
  refine AWp.region ?_
  refine AList.c 5 rfl rfl rfl (OpJ.fieldAddr rfl rfl fd24_2 rfl) ?_
  refine AList.c 6 rfl rfl rfl (OpJ.load (v := .p (cotsV p.bs)) rfl rfl ty22 rfl) ?_
  refine AList.c 7 rfl rfl rfl (OpJ.lenSlice rfl rfl sl22 rfl) ?_
  refine AList.c 8 rfl rfl rfl (OpJ.move rfl rfl) ?_
  refine AList.nil ?_
  refine AWp.block ?_
  refine AWp.loopHL [6, 7, 18] (fun g => [(8, .p (.int .i64 ((g : Nat) : Int))), (2, .p (.int .i64 ((sumD p.bs g : Nat) : Int)))]) (fun g => []) (fun g => g ≤ p.bs.length) (fun g => p.bs.length - g) 0 (Nat.zero_le _) (To.sub (Sub.chk (Sub.cons rfl (Sub.cons rfl (Sub.nil))))) (fun i hg => ?_)
  refine AWp.seq ?_
  refine AWp.region ?_
  refine AList.c 9 rfl rfl rfl (OpJ.lss rfl rfl rfl) ?_
  refine AList.nil ?_
  refine AWp.seq ?_
  refine AWp.cond _ rfl (fun hc0 => ?_) (fun hc0 => ?_)
  · skip
    have hk0 : i < p.bs.length := by have h := of_decide_eq_true hc0; omega
    have hs1 := hs (i + 1) (by omega)
    have hst : sumD p.bs (i + 1) = sumD p.bs i + (cot p.bs i).dry.length := rfl
    unfold bigN at hs1
    refine AWp.skip ?_
    refine AWp.seq ?_
    refine AWp.block ?_
    refine AWp.seq ?_
    refine AWp.region ?_
    refine AList.c 10 rfl rfl rfl (OpJ.indexG (g := cot p.bs) cot_get rfl rfl rfl sl22 el22 rfl (fun _ => rfl) (by decide) hk0) ?_
    refine AList.c 11 rfl rfl rfl (OpJ.load (v := .p (.agg (cot p.bs i).cells)) rfl rfl ty52 rfl) ?_
    refine AList.c 4 rfl rfl rfl (OpJ.allocOwn rfl zr52 rfl) ?_
    refine AList.c0 rfl rfl (OpJ.store rfl rfl rfl rfl rfl ty52 rfl rfl) ?_
    refine AList.nil ?_
    refine AWp.region ?_
    refine AList.c 12 rfl rfl rfl (OpJ.move rfl rfl) ?_
    refine AList.c 13 rfl rfl rfl (OpJ.fieldAddr rfl rfl fd52_0 rfl) ?_
    refine AList.c 14 rfl rfl rfl (OpJ.load (v := .p (spnsV (cot p.bs i).dry)) rfl rfl ty50 rfl) ?_
    refine AList.c 15 rfl rfl rfl (OpJ.lenSlice rfl rfl sl50 rfl) ?_
    refine AList.c 16 rfl rfl rfl (OpJ.add (m := ((sumD p.bs (i + 1) : Nat) : Int)) rfl rfl rfl ((i64ok ?_).trans ?_)) ?_
    · omega
    · omega
    refine AList.c 2 rfl rfl rfl (OpJ.assign rfl rfl) ?_
    refine AList.nil ?_
    refine AWp.region ?_
    refine AList.c 17 rfl rfl rfl (OpJ.add rfl rfl rfl (i64ok ?_)) ?_
    · omega
    refine AList.c 8 rfl rfl rfl (OpJ.move rfl rfl) ?_
    refine AList.nil ?_
    refine ⟨i + 1, ?_, ?_, ?_⟩
    · omega
    · omega
    exact To.done [] rfl (by repeat (first | exact Sub.nil | refine Sub.cons rfl ?_)) rfl
  · skip
    obtain rfl : i = p.bs.length := by have h := of_decide_eq_false hc0; omega
    refine AWp.exit ?_
    refine AWp.seq ?_
    refine AWp.region ?_
    refine AList.c 18 rfl rfl rfl (OpJ.move rfl rfl) ?_
    refine AList.c 2 rfl rfl rfl (OpJ.assign rfl rfl) ?_
    refine AList.nil ?_
    refine AWp.ret ?_
    exact Fin.oneE rfl rfl rfl
theorem isp1_ok (s : Spn) : Pure Try.prog 44 [.agg s.cells] (.bool (dryB s)) := by
  refine Pure.start (N := 18) Try.func44 rfl rfl (Nat.le_of_ble_eq_true rfl) ?_
  refine AWp.seq ?_
  refine AWp.region ?_
  refine AList.c 1 rfl rfl rfl (OpJ.boxImm rfl rfl rfl) ?_
  refine AList.c 2 rfl rfl rfl (OpJ.assign rfl rfl) ?_
  refine AList.nil ?_
  refine AWp.seq ?_
  refine AWp.region ?_
  refine AList.c 3 rfl rfl rfl (OpJ.fieldAddr rfl rfl fd35_0 rfl) ?_
  refine AList.c 4 rfl rfl rfl (OpJ.load (v := .p (.int .i64 s.lo)) rfl rfl ty3 rfl) ?_
  refine AList.c 5 rfl rfl rfl (OpJ.lss rfl rfl rfl) ?_
  refine AList.c 6 rfl rfl rfl (OpJ.move rfl rfl) ?_
  refine AList.g 7 6 rfl rfl rfl rfl rfl rfl rfl [(1, _)] (fun h => And.intro (.inl rfl) (trivial)) (fun h => (OpJ.fieldAddr rfl rfl fd35_0 rfl)) ?_
  refine AList.g 8 6 rfl rfl rfl rfl rfl rfl rfl [(7, _)] (fun h => And.intro (.inr ⟨_, rfl, h⟩) (trivial)) (fun h => (OpJ.load (v := .p (.int .i64 s.lo)) rfl rfl ty3 rfl)) ?_
  refine AList.g 9 6 rfl rfl rfl rfl rfl rfl rfl [(1, _)] (fun h => And.intro (.inl rfl) (trivial)) (fun h => (OpJ.fieldAddr rfl rfl fd35_1 rfl)) ?_
  refine AList.g 10 6 rfl rfl rfl rfl rfl rfl rfl [(9, _)] (fun h => And.intro (.inr ⟨_, rfl, h⟩) (trivial)) (fun h => (OpJ.load (v := .p (.int .i64 s.hi)) rfl rfl ty3 rfl)) ?_
  refine AList.g 11 6 rfl rfl rfl rfl rfl rfl rfl [(8, _), (10, _)] (fun h => And.intro (.inr ⟨_, rfl, h⟩) (And.intro (.inr ⟨_, rfl, h⟩) (trivial))) (fun h => (OpJ.gtr rfl rfl rfl)) ?_
  refine AList.c 12 rfl rfl rfl (OpJ.or_ rfl rfl rfl ?_) ?_
  · first | (intro h; rw [h]; rfl) | (intro h; simp_all)
  refine AList.c 13 rfl rfl rfl (OpJ.move rfl rfl) ?_
  refine AList.g 14 13 rfl rfl rfl rfl rfl rfl rfl [(1, _)] (fun h => And.intro (.inl rfl) (trivial)) (fun h => (OpJ.fieldAddr rfl rfl fd35_1 rfl)) ?_
  refine AList.g 15 13 rfl rfl rfl rfl rfl rfl rfl [(14, _)] (fun h => And.intro (.inr ⟨_, rfl, h⟩) (trivial)) (fun h => (OpJ.load (v := .p (.int .i64 s.hi)) rfl rfl ty3 rfl)) ?_
  refine AList.g 16 13 rfl rfl rfl rfl rfl rfl rfl [(15, _)] (fun h => And.intro (.inr ⟨_, rfl, h⟩) (trivial)) (fun h => (OpJ.gtr rfl rfl rfl)) ?_
  refine AList.c 17 rfl rfl rfl (OpJ.or_ rfl rfl rfl ?_) ?_
  · first | (intro h; rw [h]; rfl) | (intro h; simp_all)
  refine AList.c 2 rfl rfl rfl (OpJ.assign rfl rfl) ?_
  refine AList.nil ?_
  refine AWp.ret ?_
  exact Fin.one rfl (rfl)
theorem indexSp_ok (xs : List Spn) (f : PV) (p : Spn → Bool) (hx : xs.length ≤ bigN) (hf : ∀ x ∈ xs, FPure Try.prog f [.agg x.cells] (.bool (p x))) : Pure Try.prog 58 [.is (xs.flatMap Spn.cells) xs.length, f] (.int .i64 (idxF p xs)) := by
  unfold bigN at hx
  refine Pure.start (N := 19) Try.func58 rfl rfl (Nat.le_of_ble_eq_true rfl) ?_
  refine AWp.seq ?_
  refine AWp.region ?_
  refine AList.c 4 rfl rfl rfl (OpJ.assign rfl rfl) ?_
  refine AList.nil ?_
  refine AWp.seq ?_
  refine AWp.seq ?_
  refine AWp.region ?_
  refine AList.c 6 rfl rfl rfl (OpJ.move rfl rfl) ?_
  refine AList.c 7 rfl rfl rfl (OpJ.lenSlice rfl rfl sl50 rfl) ?_
  refine AList.c 8 rfl rfl rfl (OpJ.move rfl rfl) ?_
  refine AList.nil ?_
  refine AWp.block ?_
  refine AWp.loopK [4, 5, 8, 9, 10, 11, 12, 13, 14, 15, 16, 17, 18] (fun g => [(8, .p (.int .i64 ((g : Nat) : Int)))]) (fun g => g ≤ xs.length ∧ ∀ j (hj : j < g) (h : g ≤ xs.length), p (xs[j]'(by omega)) = false) (fun g => xs.length - g) 0 ⟨Nat.zero_le _, fun j hj => absurd hj (by omega)⟩ (Sub.cons rfl (Sub.nil)) (fun i hg => ?_)
  obtain ⟨hg1, hg2⟩ := hg
  refine AWp.seq ?_
  refine AWp.region ?_
  refine AList.c 9 rfl rfl rfl (OpJ.lss rfl rfl rfl) ?_
  refine AList.nil ?_
  refine AWp.seq ?_
  refine AWp.cond _ rfl (fun hc0 => ?_) (fun hc0 => ?_)
  · skip
    refine AWp.skip ?_
    refine AWp.seq ?_
    refine AWp.block ?_
    refine AWp.seq ?_
    refine AWp.region ?_
    refine AList.c 10 rfl rfl rfl (OpJ.move rfl rfl) ?_
    refine AList.c 5 rfl rfl rfl (OpJ.assign rfl rfl) ?_
    refine AList.nil ?_
    refine AWp.seq ?_
    refine AWp.region ?_
    refine AList.c 11 rfl rfl rfl (OpJ.move rfl rfl) ?_
    refine AList.c 12 rfl rfl rfl (OpJ.move rfl rfl) ?_
    refine AList.c 13 rfl rfl rfl (OpJ.move rfl rfl) ?_
    refine AList.c 14 rfl rfl rfl (OpJ.indexEl rfl rfl rfl sl50 el50 rfl (fun _ => rfl) (by decide) ?_) ?_
    · simp at hc0; omega
    refine AList.c 15 rfl rfl rfl (OpJ.load rfl rfl ty35 rfl) ?_
    refine AList.c 16 rfl rfl rfl (OpJ.callF (hf _ (List.getElem_mem _)) rfl rfl rfl) ?_
    refine AList.nil ?_
    refine AWp.cond _ rfl (fun hc1 => ?_) (fun hc1 => ?_)
    · skip
      refine AWp.seq ?_
      refine AWp.region ?_
      refine AList.c 17 rfl rfl rfl (OpJ.move rfl rfl) ?_
      refine AList.c 4 rfl rfl rfl (OpJ.assign rfl rfl) ?_
      refine AList.nil ?_
      refine AWp.ret ?_
      refine Fin.oneE rfl rfl ?_
      rw [idxF_at p xs i (by simp at hc0; omega) (fun j hj => hg2 j hj hg1) hc1]
    · skip
      refine AWp.skip ?_
      refine AWp.region ?_
      refine AList.c 18 rfl rfl rfl (OpJ.add rfl rfl rfl (i64ok ?_)) ?_
      · simp at hc0; omega
      refine AList.c 8 rfl rfl rfl (OpJ.move rfl rfl) ?_
      refine AList.nil ?_
      refine ⟨i + 1, ?_, ?_, ?_⟩
      · refine ⟨by simp at hc0; omega, fun j hj h => ?_⟩
        rcases Nat.lt_succ_iff_lt_or_eq.1 hj with h1 | rfl
        · exact hg2 j h1 hg1
        · exact hc1
      · simp at hc0; omega
      exact To.done [] rfl (by repeat (first | exact Sub.nil | refine Sub.cons rfl ?_)) rfl
  · skip
    refine AWp.exit ?_
    refine AWp.seq ?_
    refine AWp.region ?_
    refine AList.c 4 rfl rfl rfl (OpJ.assign rfl rfl) ?_
    refine AList.nil ?_
    refine AWp.ret ?_
    refine Fin.oneE rfl rfl ?_
    rw [idxF_none p xs (fun j hj => hg2 j (by simp at hc0; omega) hg1)]
theorem containsSp_ok (xs : List Spn) (f : PV) (p : Spn → Bool) (hx : xs.length ≤ bigN) (hf : ∀ x ∈ xs, FPure Try.prog f [.agg x.cells] (.bool (p x))) : Pure Try.prog 47 [.is (xs.flatMap Spn.cells) xs.length, f] (.bool (xs.any p)) := by
  refine Pure.start (N := 9) Try.func47 rfl rfl (Nat.le_of_ble_eq_true rfl) ?_
  refine AWp.seq ?_
  refine AWp.region ?_
  refine AList.c 4 rfl rfl rfl (OpJ.assign rfl rfl) ?_
  refine AList.nil ?_
  refine AWp.seq ?_
  refine AWp.region ?_
  refine AList.c 5 rfl rfl rfl (OpJ.move rfl rfl) ?_
  refine AList.c 6 rfl rfl rfl (OpJ.move rfl rfl) ?_
  refine AList.c 7 rfl rfl rfl (OpJ.callP (indexSp_ok _ _ p ?_ ?_) rfl rfl rfl rfl rf58) ?_
  · exact hx
  · exact hf
  refine AList.c 8 rfl rfl rfl (OpJ.geq rfl rfl rfl) ?_
  refine AList.c 4 rfl rfl rfl (OpJ.assign rfl rfl) ?_
  refine AList.nil ?_
  refine AWp.ret ?_
  refine Fin.oneE rfl rfl ?_
  rw [idxF_any]
theorem indexCo_ok (xs : List Cot) (f : PV) (p : Cot → Bool) (hx : xs.length ≤ bigN) (hf : ∀ x ∈ xs, FPure Try.prog f [.agg x.cells] (.bool (p x))) : Pure Try.prog 59 [.is (xs.flatMap Cot.cells) xs.length, f] (.int .i64 (idxF p xs)) := by
  unfold bigN at hx
  refine Pure.start (N := 19) Try.func59 rfl rfl (Nat.le_of_ble_eq_true rfl) ?_
  refine AWp.seq ?_
  refine AWp.region ?_
  refine AList.c 4 rfl rfl rfl (OpJ.assign rfl rfl) ?_
  refine AList.nil ?_
  refine AWp.seq ?_
  refine AWp.seq ?_
  refine AWp.region ?_
  refine AList.c 6 rfl rfl rfl (OpJ.move rfl rfl) ?_
  refine AList.c 7 rfl rfl rfl (OpJ.lenSlice rfl rfl sl22 rfl) ?_
  refine AList.c 8 rfl rfl rfl (OpJ.move rfl rfl) ?_
  refine AList.nil ?_
  refine AWp.block ?_
  refine AWp.loopK [4, 5, 8, 9, 10, 11, 12, 13, 14, 15, 16, 17, 18] (fun g => [(8, .p (.int .i64 ((g : Nat) : Int)))]) (fun g => g ≤ xs.length ∧ ∀ j (hj : j < g) (h : g ≤ xs.length), p (xs[j]'(by omega)) = false) (fun g => xs.length - g) 0 ⟨Nat.zero_le _, fun j hj => absurd hj (by omega)⟩ (Sub.cons rfl (Sub.nil)) (fun i hg => ?_)
  obtain ⟨hg1, hg2⟩ := hg
  refine AWp.seq ?_
  refine AWp.region ?_
  refine AList.c 9 rfl rfl rfl (OpJ.lss rfl rfl rfl) ?_
  refine AList.nil ?_
  refine AWp.seq ?_
  refine AWp.cond _ rfl (fun hc0 => ?_) (fun hc0 => ?_)
  · skip
    refine AWp.skip ?_
    refine AWp.seq ?_
    refine AWp.block ?_
    refine AWp.seq ?_
    refine AWp.region ?_
    refine AList.c 10 rfl rfl rfl (OpJ.move rfl rfl) ?_
    refine AList.c 5 rfl rfl rfl (OpJ.assign rfl rfl) ?_
    refine AList.nil ?_
    refine AWp.seq ?_
    refine AWp.region ?_
    refine AList.c 11 rfl rfl rfl (OpJ.move rfl rfl) ?_
    refine AList.c 12 rfl rfl rfl (OpJ.move rfl rfl) ?_
    refine AList.c 13 rfl rfl rfl (OpJ.move rfl rfl) ?_
    refine AList.c 14 rfl rfl rfl (OpJ.indexEl rfl rfl rfl sl22 el22 rfl (fun _ => rfl) (by decide) ?_) ?_
    · simp at hc0; omega
    refine AList.c 15 rfl rfl rfl (OpJ.load rfl rfl ty52 rfl) ?_
    refine AList.c 16 rfl rfl rfl (OpJ.callF (hf _ (List.getElem_mem _)) rfl rfl rfl) ?_
    refine AList.nil ?_
    refine AWp.cond _ rfl (fun hc1 => ?_) (fun hc1 => ?_)
    · skip
      refine AWp.seq ?_
      refine AWp.region ?_
      refine AList.c 17 rfl rfl rfl (OpJ.move rfl rfl) ?_
      refine AList.c 4 rfl rfl rfl (OpJ.assign rfl rfl) ?_
      refine AList.nil ?_
      refine AWp.ret ?_
      refine Fin.oneE rfl rfl ?_
      rw [idxF_at p xs i (by simp at hc0; omega) (fun j hj => hg2 j hj hg1) hc1]
    · skip
      refine AWp.skip ?_
      refine AWp.region ?_
      refine AList.c 18 rfl rfl rfl (OpJ.add rfl rfl rfl (i64ok ?_)) ?_
      · simp at hc0; omega
      refine AList.c 8 rfl rfl rfl (OpJ.move rfl rfl) ?_
      refine AList.nil ?_
      refine ⟨i + 1, ?_, ?_, ?_⟩
      · refine ⟨by simp at hc0; omega, fun j hj h => ?_⟩
        rcases Nat.lt_succ_iff_lt_or_eq.1 hj with h1 | rfl
        · exact hg2 j h1 hg1
        · exact hc1
      · simp at hc0; omega
      exact To.done [] rfl (by repeat (first | exact Sub.nil | refine Sub.cons rfl ?_)) rfl
  · skip
    refine AWp.exit ?_
    refine AWp.seq ?_
    refine AWp.region ?_
    refine AList.c 4 rfl rfl rfl (OpJ.assign rfl rfl) ?_
    refine AList.nil ?_
    refine AWp.ret ?_
    refine Fin.oneE rfl rfl ?_
    rw [idxF_none p xs (fun j hj => hg2 j (by simp at hc0; omega) hg1)]
theorem containsCo_ok (xs : List Cot) (f : PV) (p : Cot → Bool) (hx : xs.length ≤ bigN) (hf : ∀ x ∈ xs, FPure Try.prog f [.agg x.cells] (.bool (p x))) : Pure Try.prog 48 [.is (xs.flatMap Cot.cells) xs.length, f] (.bool (xs.any p)) := by
  refine Pure.start (N := 9) Try.func48 rfl rfl (Nat.le_of_ble_eq_true rfl) ?_
  refine AWp.seq ?_
  refine AWp.region ?_
  refine AList.c 4 rfl rfl rfl (OpJ.assign rfl rfl) ?_
  refine AList.nil ?_
  refine AWp.seq ?_
  refine AWp.region ?_
  refine AList.c 5 rfl rfl rfl (OpJ.move rfl rfl) ?_
  refine AList.c 6 rfl rfl rfl (OpJ.move rfl rfl) ?_
  refine AList.c 7 rfl rfl rfl (OpJ.callP (indexCo_ok _ _ p ?_ ?_) rfl rfl rfl rfl rf59) ?_
  · exact hx
  · exact hf
  refine AList.c 8 rfl rfl rfl (OpJ.geq rfl rfl rfl) ?_
  refine AList.c 4 rfl rfl rfl (OpJ.assign rfl rfl) ?_
  refine AList.nil ?_
  refine AWp.ret ?_
  refine Fin.oneE rfl rfl ?_
  rw [idxF_any]
theorem isp2_ok (b : Cot) (hb : b.dry.length ≤ bigN) : Pure Try.prog 45 [.agg b.cells, .ip [(.func (.func 44) [] [])] 0] (.bool (cotB b)) := by
  refine Pure.start (N := 20) Try.func45 rfl rfl (Nat.le_of_ble_eq_true rfl) ?_
  refine AWp.seq ?_
  refine AWp.region ?_
  refine AList.c 2 rfl rfl rfl (OpJ.boxImm rfl rfl rfl) ?_
  refine AList.c 3 rfl rfl rfl (OpJ.assign rfl rfl) ?_
  refine AList.nil ?_
  refine AWp.seq ?_
  refine AWp.region ?_
  refine AList.c 4 rfl rfl rfl (OpJ.fieldAddr rfl rfl fd52_0 rfl) ?_
  refine AList.c 5 rfl rfl rfl (OpJ.load (v := .p (spnsV b.dry)) rfl rfl ty50 rfl) ?_
  refine AList.c 6 rfl rfl rfl (OpJ.lenSlice rfl rfl sl50 rfl) ?_
  refine AList.c 7 rfl rfl rfl (OpJ.eql rfl rfl rfl) ?_
  refine AList.c 8 rfl rfl rfl (OpJ.move rfl rfl) ?_
  refine AList.g 9 8 rfl rfl rfl rfl rfl rfl rfl [(2, _)] (fun h => And.intro (.inl rfl) (trivial)) (fun h => (OpJ.fieldAddr rfl rfl fd52_1 rfl)) ?_
  refine AList.g 10 8 rfl rfl rfl rfl rfl rfl rfl [(9, _)] (fun h => And.intro (.inr ⟨_, rfl, h⟩) (trivial)) (fun h => (OpJ.load (v := .p (.int .i64 b.late)) rfl rfl ty3 rfl)) ?_
  refine AList.g 11 8 rfl rfl rfl rfl rfl rfl rfl [(10, _)] (fun h => And.intro (.inr ⟨_, rfl, h⟩) (trivial)) (fun h => (OpJ.callP (within_ok _ _ _) rfl rfl rfl rfl rf46)) ?_
  refine AList.g 12 8 rfl rfl rfl rfl rfl rfl rfl [(11, _)] (fun h => And.intro (.inr ⟨_, rfl, h⟩) (trivial)) (fun h => (OpJ.not_ rfl rfl)) ?_
  refine AList.c 13 rfl rfl rfl (OpJ.or_ rfl rfl rfl ?_) ?_
  · first | (intro h; rw [h]; rfl) | (intro h; simp_all)
  refine AList.c 14 rfl rfl rfl (OpJ.move rfl rfl) ?_
  refine AList.g 15 14 rfl rfl rfl rfl rfl rfl rfl [(2, _)] (fun h => And.intro (.inl rfl) (trivial)) (fun h => (OpJ.fieldAddr rfl rfl fd52_0 rfl)) ?_
  refine AList.g 16 14 rfl rfl rfl rfl rfl rfl rfl [(15, _)] (fun h => And.intro (.inr ⟨_, rfl, h⟩) (trivial)) (fun h => (OpJ.load (v := .p (spnsV b.dry)) rfl rfl ty50 rfl)) ?_
  refine AList.g 17 14 rfl rfl rfl rfl rfl rfl rfl [(1, _)] (fun h => And.intro (.inl rfl) (trivial)) (fun h => (OpJ.load (v := .p (.func (.func 44) [] [])) rfl rfl ty89 rfl)) ?_
  refine AList.g 18 14 rfl rfl rfl rfl rfl rfl rfl [(16, _), (17, _)] (fun h => And.intro (.inr ⟨_, rfl, h⟩) (And.intro (.inr ⟨_, rfl, h⟩) (trivial))) (fun h => (OpJ.callP (containsSp_ok b.dry _ dryB hb (fun y _ => ⟨44, [.agg y.cells], rfl, rf44, isp1_ok y⟩)) rfl rfl rfl rfl rf47)) ?_
  refine AList.c 19 rfl rfl rfl (OpJ.or_ rfl rfl rfl ?_) ?_
  · first | (intro h; rw [h]; rfl) | (intro h; simp_all)
  refine AList.c 3 rfl rfl rfl (OpJ.assign rfl rfl) ?_
  refine AList.nil ?_
  refine AWp.ret ?_
  exact Fin.one rfl (rfl)
theorem sums_ok {p : Pnt} (hb : p.bs.length ≤ 8) (hbd : ∀ b ∈ p.bs, b.dry.length ≤ 14) : ∀ k, k ≤ p.bs.length → sumD p.bs k ≤ bigN := by
  have h : ∀ k, k ≤ p.bs.length → sumD p.bs k ≤ k * 14 := by
    intro k
    induction k with
    | zero => intro _; exact Nat.le_refl _
    | succ k ih =>
      intro hk
      have h1 := ih (by omega)
      have h2 := hbd _ (cot_mem (show k < p.bs.length by omega))
      rw [sumD]
      omega
  intro k hk
  have h1 := h k hk
  unfold bigN
  omega
theorem big14 {n : Nat} (h : n ≤ 14) : n ≤ bigN := by unfold bigN; omega
theorem isPaint_ok (p : Pnt) (hb : p.bs.length ≤ 8) (hbd : ∀ b ∈ p.bs, b.dry.length ≤ 14) : Pure Try.prog 27 [pntV p] (.bool (pntB p)) := by
  refine Pure.start (N := 34) Try.func27 rfl rfl (Nat.le_of_ble_eq_true rfl) ?_
  refine AWp.seq ?_
  refine AWp.region ?_
  refine AList.c 1 rfl rfl rfl (OpJ.boxImm rfl rfl rfl) ?_
  refine AList.c 2 rfl rfl rfl (OpJ.assign rfl rfl) ?_
  refine AList.nil ?_
  refine AWp.seq ?_
  refine AWp.region ?_
  refine AList.c 3 rfl rfl rfl (OpJ.allocOwn rfl zr89 rfl) ?_
  refine AList.c0 rfl rfl (OpJ.store rfl rfl rfl rfl rfl ty89 rfl rfl) ?_
  refine AList.nil ?_
  refine AWp.seq ?_
  refine AWp.freeze 0 rfl rfl ?_
  refine AWp.region ?_
  refine AList.c 6 rfl rfl rfl (OpJ.makeFunc rfl rfl rfl) ?_
  refine AList.c 4 rfl rfl rfl (OpJ.assign rfl rfl) ?_
  refine AList.nil ?_
  refine AWp.seq ?_
  refine AWp.region ?_
  refine AList.c 7 rfl rfl rfl (OpJ.fieldAddr rfl rfl fd24_0 rfl) ?_
  refine AList.c 8 rfl rfl rfl (OpJ.load (v := .p (.int .i64 p.dip)) rfl rfl ty3 rfl) ?_
  refine AList.c 9 rfl rfl rfl (OpJ.callP (within_ok _ _ _) rfl rfl rfl rfl rf46) ?_
  refine AList.c 10 rfl rfl rfl (OpJ.move rfl rfl) ?_
  refine AList.g 11 10 rfl rfl rfl rfl rfl rfl rfl [(1, _)] (fun h => And.intro (.inl rfl) (trivial)) (fun h => (OpJ.fieldAddr rfl rfl fd24_1 rfl)) ?_
  refine AList.g 12 10 rfl rfl rfl rfl rfl rfl rfl [(11, _)] (fun h => And.intro (.inr ⟨_, rfl, h⟩) (trivial)) (fun h => (OpJ.load (v := .p (.int .i64 p.racks)) rfl rfl ty3 rfl)) ?_
  refine AList.g 13 10 rfl rfl rfl rfl rfl rfl rfl [(12, _)] (fun h => And.intro (.inr ⟨_, rfl, h⟩) (trivial)) (fun h => (OpJ.callP (within_ok _ _ _) rfl rfl rfl rfl rf46)) ?_
  refine AList.c 14 rfl rfl rfl (OpJ.and_ rfl rfl rfl ?_) ?_
  · first | (intro h; rw [h]; rfl) | (intro h; simp_all)
  refine AList.c 15 rfl rfl rfl (OpJ.move rfl rfl) ?_
  refine AList.g 16 15 rfl rfl rfl rfl rfl rfl rfl [(1, _)] (fun h => And.intro (.inl rfl) (trivial)) (fun h => (OpJ.fieldAddr rfl rfl fd24_2 rfl)) ?_
  refine AList.g 17 15 rfl rfl rfl rfl rfl rfl rfl [(16, _)] (fun h => And.intro (.inr ⟨_, rfl, h⟩) (trivial)) (fun h => (OpJ.load (v := .p (cotsV p.bs)) rfl rfl ty22 rfl)) ?_
  refine AList.g 18 15 rfl rfl rfl rfl rfl rfl rfl [(17, _)] (fun h => And.intro (.inr ⟨_, rfl, h⟩) (trivial)) (fun h => (OpJ.lenSlice rfl rfl sl22 rfl)) ?_
  refine AList.g 19 15 rfl rfl rfl rfl rfl rfl rfl [(18, _)] (fun h => And.intro (.inr ⟨_, rfl, h⟩) (trivial)) (fun h => (OpJ.callP (within_ok _ _ _) rfl rfl rfl rfl rf46)) ?_
  refine AList.c 20 rfl rfl rfl (OpJ.and_ rfl rfl rfl ?_) ?_
  · first | (intro h; rw [h]; rfl) | (intro h; simp_all)
  refine AList.c 5 rfl rfl rfl (OpJ.assign rfl rfl) ?_
  refine AList.nil ?_
  refine AWp.seq ?_
  refine AWp.region ?_
  refine AList.c 21 rfl rfl rfl (OpJ.move rfl rfl) ?_
  refine AList.c 22 rfl rfl rfl (OpJ.move rfl rfl) ?_
  refine AList.g 23 22 rfl rfl rfl rfl rfl rfl rfl [(1, _)] (fun h => And.intro (.inl rfl) (trivial)) (fun h => (OpJ.fieldAddr rfl rfl fd24_2 rfl)) ?_
  refine AList.g 24 22 rfl rfl rfl rfl rfl rfl rfl [(23, _)] (fun h => And.intro (.inr ⟨_, rfl, h⟩) (trivial)) (fun h => (OpJ.load (v := .p (cotsV p.bs)) rfl rfl ty22 rfl)) ?_
  refine AList.g 25 22 rfl rfl rfl rfl rfl rfl rfl [(4, _)] (fun h => And.intro (.inl rfl) (trivial)) (fun h => (OpJ.move rfl rfl)) ?_
  refine AList.g 26 22 rfl rfl rfl rfl rfl rfl rfl [(24, _), (25, _)] (fun h => And.intro (.inr ⟨_, rfl, h⟩) (And.intro (.inr ⟨_, rfl, h⟩) (trivial))) (fun h => (OpJ.callP (containsCo_ok p.bs _ cotB (big14 (by omega)) (fun y hy => ⟨45, [.agg y.cells, .ip [(.func (.func 44) [] [])] 0], rfl, rf45, isp2_ok y (big14 (hbd y hy))⟩)) rfl rfl rfl rfl rf48)) ?_
  refine AList.g 27 22 rfl rfl rfl rfl rfl rfl rfl [(26, _)] (fun h => And.intro (.inr ⟨_, rfl, h⟩) (trivial)) (fun h => (OpJ.not_ rfl rfl)) ?_
  refine AList.c 28 rfl rfl rfl (OpJ.and_ rfl rfl rfl ?_) ?_
  · first | (intro h; rw [h]; rfl) | (intro h; simp_all)
  refine AList.c 29 rfl rfl rfl (OpJ.move rfl rfl) ?_
  refine AList.g 30 29 rfl rfl rfl rfl rfl rfl rfl [(1, _)] (fun h => And.intro (.inl rfl) (trivial)) (fun h => (OpJ.load (v := .p (pntV p)) rfl rfl ty24 rfl)) ?_
  refine AList.g 31 29 rfl rfl rfl rfl rfl rfl rfl [(30, _)] (fun h => And.intro (.inr ⟨_, rfl, h⟩) (trivial)) (fun h => (OpJ.callP (coatsOf_ok p (big14 (by omega)) (sums_ok hb hbd)) rfl rfl rfl rfl rf33)) ?_
  refine AList.g 32 29 rfl rfl rfl rfl rfl rfl rfl [(31, _)] (fun h => And.intro (.inr ⟨_, rfl, h⟩) (trivial)) (fun h => (OpJ.leq rfl rfl rfl)) ?_
  refine AList.c 33 rfl rfl rfl (OpJ.and_ rfl rfl rfl ?_) ?_
  · first | (intro h; rw [h]; rfl) | (intro h; simp_all)
  refine AList.c 2 rfl rfl rfl (OpJ.assign rfl rfl) ?_
  refine AList.nil ?_
  refine AWp.ret ?_
  exact Fin.oneE rfl rfl rfl
end Go.Proofs.Ytibgdkaipleajaa
end

section
set_option linter.unusedVariables false
set_option maxRecDepth 100000
set_option maxHeartbeats 4000000
set_option linter.unusedSimpArgs false
namespace Go.Proofs.Ytibgdkaipleajaa
open Go.AF
theorem isEarly_ok (p : Pnt) (S : Shp) (b t : Int) : ACalls Try.prog 49 [.ptr 0 0, .p (.agg [.int .i64 b, .int .i64 t])] [.cells (List.map V.p (shpL p S)) 66] fun v H' => v = .p (.bool (decide (t < S.fr))) ∧ H' = [.cells (List.map V.p (shpL p S)) 66] := by
  refine ACalls.start (N := 12) Try.func49 rfl rfl (Nat.le_of_ble_eq_true rfl) ?_
  refine AWp.seq ?_
  refine AWp.region ?_
  refine AList.c 3 rfl rfl rfl (OpJ.boxImm rfl rfl rfl) ?_
  refine AList.c 4 rfl rfl rfl (OpJ.assign rfl rfl) ?_
  refine AList.nil ?_
  refine AWp.seq ?_
  refine AWp.regionDraw 8 mixed (by kernel_rfl) (by decide) ?_
  refine AQuiet.cons 5 rfl rfl rfl (OpJ.fieldAddr rfl rfl fd49_1 rfl) ?_
  refine AQuiet.cons 6 rfl rfl rfl (OpJ.load (v := .p (.int .i64 t)) rfl rfl ty3 rfl) ?_
  refine AQuiet.cons 7 rfl rfl rfl (OpJ.move rfl rfl) ?_
  refine AQuiet.cons 8 rfl rfl rfl (OpJ.nilCheck rfl rfl) ?_
  refine AQuiet.cons 9 rfl rfl rfl (OpJ.fieldAddr rfl rfl fd66_2 rfl) ?_
  refine AQuiet.cons 10 rfl rfl rfl (OpJ.loadCell (k := 19) (v := (.p (.int .i64 S.fr))) rfl rfl ty3 rfl rfl rfl) ?_
  refine AQuiet.cons 11 rfl rfl rfl (OpJ.lss rfl rfl rfl) ?_
  refine AQuiet.cons 4 rfl rfl rfl (OpJ.assign rfl rfl) ?_
  refine AQuiet.nil ?_
  refine AList.nil ?_
  refine AWp.norm [0] [(4, _)] [.cells (List.map V.p (shpL p S)) 66] rfl (by repeat (first | exact Sub.nil | refine Sub.cons rfl ?_)) (by show [Blk.cells (renL _ (List.map V.p _)) _] = _; rw [renL_pure]) ?_
  refine AWp.ret ?_
  exact ⟨.inr rfl, _, resV.one rfl rfl, rfl, rfl⟩
theorem isWet_ok (p : Pnt) (hp : Ok p) (S : Shp) (b : Nat) (t : Int) (hb : b < p.bs.length) : ACalls Try.prog 50 [.ptr 0 0, .p (.agg [.int .i64 ((b : Nat) : Int), .int .i64 t])] [.cells (List.map V.p (shpL p S)) 66] fun v H' => v = .p (.bool (isWetB S b t)) ∧ H' = [.cells (List.map V.p (shpL p S)) 66] := by
  have hb4 : b < 4 := by have := hp.n; omega
  refine ACalls.start (N := 23) Try.func50 rfl rfl (Nat.le_of_ble_eq_true rfl) ?_
  refine AWp.seq ?_
  refine AWp.region ?_
  refine AList.c 3 rfl rfl rfl (OpJ.boxImm rfl rfl rfl) ?_
  refine AList.c 4 rfl rfl rfl (OpJ.assign rfl rfl) ?_
  refine AList.nil ?_
  refine AWp.seq ?_
  refine AWp.regionDrawC 9 mixed (by kernel_rfl) (by decide) ?_
  refine AQuietC.cons 6 rfl rfl rfl (OpJ.move rfl rfl) (fun _ => (OpJ.move rfl rfl)) ?_
  refine AQuietC.cons 7 rfl rfl rfl (OpJ.fieldAddr rfl rfl fd49_0 rfl) (fun _ => (OpJ.fieldAddr rfl rfl fd49_0 rfl)) ?_
  refine AQuietC.cons 8 rfl rfl rfl (OpJ.load (v := .p (.int .i64 ((b : Nat) : Int))) rfl rfl ty3 rfl) (fun _ => (OpJ.load (v := .p (.int .i64 ((b : Nat) : Int))) rfl rfl ty3 rfl)) ?_
  refine AQuietC.cons 9 rfl rfl rfl (OpJ.nilCheck rfl rfl) (fun _ => (OpJ.nilCheck rfl rfl)) ?_
  refine AQuietC.cons 10 rfl rfl rfl (OpJ.fieldAddr rfl rfl fd66_1 rfl) (fun _ => (OpJ.fieldAddr rfl rfl fd66_1 rfl)) ?_
  refine AQuietC.cons 11 rfl rfl rfl (OpJ.indexArrI rfl rfl rfl ar64 el64 hb4) (fun _ => (OpJ.indexArrI rfl rfl rfl ar64 el64 hb4)) ?_
  refine AQuietC.cons 12 rfl rfl rfl (OpJ.load (v := .p (.agg (S.had b).cells)) rfl rfl ty63 (shp_hung p S rfl hb4 (by omega))) (fun _ => (OpJ.load (v := .p (.agg (S.had b).cells)) rfl rfl ty63 (shp_hung p S rfl hb4 (by omega)))) ?_
  refine AQuietC.lay 5 rfl rfl rfl (OpJ.allocOwn rfl zr63 rfl) ?_
  refine AQuietC.put rfl rfl (by decide) (OpJ.store rfl rfl rfl rfl rfl ty63 rfl rfl) rfl ?_
  refine AQuietC.nil ?_
  refine AList.nil ?_
  refine AWp.seq ?_
  refine AWp.region ?_
  refine AList.c 13 rfl rfl rfl (OpJ.fieldAddr rfl rfl fd63_0 rfl) ?_
  refine AList.c 14 rfl rfl rfl (OpJ.load (v := .p (.int .i64 ((S.had b).many : Int))) rfl rfl ty3 rfl) ?_
  refine AList.c 15 rfl rfl rfl (OpJ.gtr rfl rfl rfl) ?_
  refine AList.c 16 rfl rfl rfl (OpJ.move rfl rfl) ?_
  refine AList.g 17 16 rfl rfl rfl rfl rfl rfl rfl [(3, _)] (fun h => And.intro (.inl rfl) (trivial)) (fun h => (OpJ.fieldAddr rfl rfl fd49_1 rfl)) ?_
  refine AList.g 18 16 rfl rfl rfl rfl rfl rfl rfl [(17, _)] (fun h => And.intro (.inr ⟨_, rfl, h⟩) (trivial)) (fun h => (OpJ.load (v := .p (.int .i64 t)) rfl rfl ty3 rfl)) ?_
  refine AList.g 19 16 rfl rfl rfl rfl rfl rfl rfl [(5, _)] (fun h => And.intro (.inl rfl) (trivial)) (fun h => (OpJ.fieldAddr rfl rfl fd63_3 rfl)) ?_
  refine AList.g 20 16 rfl rfl rfl rfl rfl rfl rfl [(19, _)] (fun h => And.intro (.inr ⟨_, rfl, h⟩) (trivial)) (fun h => (OpJ.load (v := .p (.int .i64 (S.had b).surely)) rfl rfl ty3 rfl)) ?_
  refine AList.g 21 16 rfl rfl rfl rfl rfl rfl rfl [(18, _), (20, _)] (fun h => And.intro (.inr ⟨_, rfl, h⟩) (And.intro (.inr ⟨_, rfl, h⟩) (trivial))) (fun h => (OpJ.lss rfl rfl rfl)) ?_
  refine AList.c 22 rfl rfl rfl (OpJ.and_ rfl rfl rfl ?_) ?_
  · first | (intro h; rw [h]; rfl) | (intro h; simp_all)
  refine AList.c 4 rfl rfl rfl (OpJ.assign rfl rfl) ?_
  refine AList.nil ?_
  refine AWp.norm [0] [(4, _)] [.cells (List.map V.p (shpL p S)) 66] rfl (by repeat (first | exact Sub.nil | refine Sub.cons rfl ?_)) (by show [Blk.cells (renL _ (List.map V.p _)) _] = _; rw [renL_pure]) ?_
  refine AWp.ret ?_
  exact ⟨.inr rfl, _, resV.one rfl rfl, rfl, rfl⟩
theorem isLate_ok (p : Pnt) (hp : Ok p) (S : Shp) (b : Nat) (t : Int) (hb : b < p.bs.length) (M : Int) (hS : ShB M S) (hM : M ≤ 1073741824) : ACalls Try.prog 51 [.ptr 0 0, .p (.agg [.int .i64 ((b : Nat) : Int), .int .i64 t])] [.cells (List.map V.p (shpL p S)) 66] fun v H' => v = .p (.bool (isLateB p S b t)) ∧ H' = [.cells (List.map V.p (shpL p S)) 66] := by
  have hb4 : b < 4 := by have := hp.n; omega
  refine ACalls.start (N := 34) Try.func51 rfl rfl (Nat.le_of_ble_eq_true rfl) ?_
  have hc := hS.could b
  have hl := hp.late _ (cot_mem hb)
  refine AWp.seq ?_
  refine AWp.region ?_
  refine AList.c 3 rfl rfl rfl (OpJ.boxImm rfl rfl rfl) ?_
  refine AList.c 4 rfl rfl rfl (OpJ.assign rfl rfl) ?_
  refine AList.nil ?_
  refine AWp.seq ?_
  refine AWp.regionDrawC 9 mixed (by kernel_rfl) (by decide) ?_
  refine AQuietC.cons 6 rfl rfl rfl (OpJ.move rfl rfl) (fun _ => (OpJ.move rfl rfl)) ?_
  refine AQuietC.cons 7 rfl rfl rfl (OpJ.fieldAddr rfl rfl fd49_0 rfl) (fun _ => (OpJ.fieldAddr rfl rfl fd49_0 rfl)) ?_
  refine AQuietC.cons 8 rfl rfl rfl (OpJ.load (v := .p (.int .i64 ((b : Nat) : Int))) rfl rfl ty3 rfl) (fun _ => (OpJ.load (v := .p (.int .i64 ((b : Nat) : Int))) rfl rfl ty3 rfl)) ?_
  refine AQuietC.cons 9 rfl rfl rfl (OpJ.nilCheck rfl rfl) (fun _ => (OpJ.nilCheck rfl rfl)) ?_
  refine AQuietC.cons 10 rfl rfl rfl (OpJ.fieldAddr rfl rfl fd66_1 rfl) (fun _ => (OpJ.fieldAddr rfl rfl fd66_1 rfl)) ?_
  refine AQuietC.cons 11 rfl rfl rfl (OpJ.indexArrI rfl rfl rfl ar64 el64 hb4) (fun _ => (OpJ.indexArrI rfl rfl rfl ar64 el64 hb4)) ?_
  refine AQuietC.cons 12 rfl rfl rfl (OpJ.load (v := .p (.agg (S.had b).cells)) rfl rfl ty63 (shp_hung p S rfl hb4 (by omega))) (fun _ => (OpJ.load (v := .p (.agg (S.had b).cells)) rfl rfl ty63 (shp_hung p S rfl hb4 (by omega)))) ?_
  refine AQuietC.lay 5 rfl rfl rfl (OpJ.allocOwn rfl zr63 rfl) ?_
  refine AQuietC.put rfl rfl (by decide) (OpJ.store rfl rfl rfl rfl rfl ty63 rfl rfl) rfl ?_
  refine AQuietC.nil ?_
  refine AList.nil ?_
  refine AWp.seq ?_
  refine AWp.regionDraw 22 mixed (by kernel_rfl) (by decide) ?_
  refine AQuiet.cons 13 rfl rfl rfl (OpJ.fieldAddr rfl rfl fd63_0 rfl) ?_
  refine AQuiet.cons 14 rfl rfl rfl (OpJ.load (v := .p (.int .i64 ((S.had b).many : Int))) rfl rfl ty3 rfl) ?_
  refine AQuiet.cons 15 rfl rfl rfl (OpJ.gtr rfl rfl rfl) ?_
  refine AQuiet.cons 16 rfl rfl rfl (OpJ.move rfl rfl) ?_
  refine AQuiet.guard 17 16 rfl rfl rfl rfl rfl rfl rfl [(3, _)] (fun h => And.intro (.inl rfl) (trivial)) (fun h => (OpJ.fieldAddr rfl rfl fd49_1 rfl)) ?_
  refine AQuiet.guard 18 16 rfl rfl rfl rfl rfl rfl rfl [(17, _)] (fun h => And.intro (.inr ⟨_, rfl, h⟩) (trivial)) (fun h => (OpJ.load (v := .p (.int .i64 t)) rfl rfl ty3 rfl)) ?_
  refine AQuiet.guard 19 16 rfl rfl rfl rfl rfl rfl rfl [(5, _)] (fun h => And.intro (.inl rfl) (trivial)) (fun h => (OpJ.fieldAddr rfl rfl fd63_2 rfl)) ?_
  refine AQuiet.guard 20 16 rfl rfl rfl rfl rfl rfl rfl [(19, _)] (fun h => And.intro (.inr ⟨_, rfl, h⟩) (trivial)) (fun h => (OpJ.load (v := .p (.int .i64 (S.had b).could)) rfl rfl ty3 rfl)) ?_
  refine AQuiet.guard 21 16 rfl rfl rfl rfl rfl rfl rfl [(0, _)] (fun h => And.intro (.inl rfl) (trivial)) (fun h => (OpJ.move rfl rfl)) ?_
  refine AQuiet.guard 22 16 rfl rfl rfl rfl rfl rfl rfl [(21, _)] (fun h => And.intro (.inr ⟨_, rfl, h⟩) (trivial)) (fun h => (OpJ.nilCheck rfl rfl)) ?_
  refine AQuiet.guard 23 16 rfl rfl rfl rfl rfl rfl rfl [(22, _)] (fun h => And.intro (.inr ⟨_, rfl, h⟩) (trivial)) (fun h => (OpJ.fieldAddr rfl rfl fd66_0 rfl)) ?_
  refine AQuiet.guard 24 16 rfl rfl rfl rfl rfl rfl rfl [(23, _)] (fun h => And.intro (.inr ⟨_, rfl, h⟩) (trivial)) (fun h => (OpJ.fieldAddr rfl rfl fd24_2 rfl)) ?_
  refine AQuiet.guard 25 16 rfl rfl rfl rfl rfl rfl rfl [(24, _)] (fun h => And.intro (.inr ⟨_, rfl, h⟩) (trivial)) (fun h => (OpJ.load (v := .p (cotsV p.bs)) rfl rfl ty22 rfl)) ?_
  refine AQuiet.guard 26 16 rfl rfl rfl rfl rfl rfl rfl [(3, _)] (fun h => And.intro (.inl rfl) (trivial)) (fun h => (OpJ.fieldAddr rfl rfl fd49_0 rfl)) ?_
  refine AQuiet.guard 27 16 rfl rfl rfl rfl rfl rfl rfl [(26, _)] (fun h => And.intro (.inr ⟨_, rfl, h⟩) (trivial)) (fun h => (OpJ.load (v := .p (.int .i64 ((b : Nat) : Int))) rfl rfl ty3 rfl)) ?_
  refine AQuiet.guard 28 16 rfl rfl rfl rfl rfl rfl rfl [(25, _), (27, _)] (fun h => And.intro (.inr ⟨_, rfl, h⟩) (And.intro (.inr ⟨_, rfl, h⟩) (trivial))) (fun h => (OpJ.indexG (g := cot p.bs) cot_get rfl rfl rfl sl22 el22 rfl (fun _ => rfl) (by decide) hb)) ?_
  refine AQuiet.guard 29 16 rfl rfl rfl rfl rfl rfl rfl [(28, _)] (fun h => And.intro (.inr ⟨_, rfl, h⟩) (trivial)) (fun h => (OpJ.fieldAddr rfl rfl fd52_1 rfl)) ?_
  refine AQuiet.guard 30 16 rfl rfl rfl rfl rfl rfl rfl [(29, _)] (fun h => And.intro (.inr ⟨_, rfl, h⟩) (trivial)) (fun h => (OpJ.load (v := .p (.int .i64 (cot p.bs b).late)) rfl rfl ty3 rfl)) ?_
  refine AQuiet.guard 31 16 rfl rfl rfl rfl rfl rfl rfl [(20, _), (30, _)] (fun h => And.intro (.inr ⟨_, rfl, h⟩) (And.intro (.inr ⟨_, rfl, h⟩) (trivial))) (fun h => (OpJ.add rfl rfl rfl (i64ok (by omega)))) ?_
  refine AQuiet.guard 32 16 rfl rfl rfl rfl rfl rfl rfl [(18, _), (31, _)] (fun h => And.intro (.inr ⟨_, rfl, h⟩) (And.intro (.inr ⟨_, rfl, h⟩) (trivial))) (fun h => (OpJ.gtr rfl rfl rfl)) ?_
  refine AQuiet.cons 33 rfl rfl rfl (OpJ.and_ rfl rfl rfl ?_) ?_
  · first | (intro h; rw [h]; rfl) | (intro h; simp_all)
  refine AQuiet.cons 4 rfl rfl rfl (OpJ.assign rfl rfl) ?_
  refine AQuiet.nil ?_
  refine AList.nil ?_
  refine AWp.norm [0] [(4, _)] [.cells (List.map V.p (shpL p S)) 66] rfl (by repeat (first | exact Sub.nil | refine Sub.cons rfl ?_)) (by show [Blk.cells (renL _ (List.map V.p _)) _] = _; rw [renL_pure]) ?_
  refine AWp.ret ?_
  exact ⟨.inr rfl, _, resV.one rfl rfl, rfl, rfl⟩
theorem may_ok (p : Pnt) (hp : Ok p) (S : Shp) (b : Int) : ACalls Try.prog 28 [.ptr 0 0, .p (.int .i64 b)] [.cells (List.map V.p (shpL p S)) 66] fun v H' => v = .p (.int .i64 (mayE p S b)) ∧ H' = [.cells (List.map V.p (shpL p S)) 66] := by
  have hn := hp.n
  refine ACalls.start (N := 35) Try.func28 rfl rfl (Nat.le_of_ble_eq_true rfl) ?_
  refine AWp.seq ?_
  refine AWp.region ?_
  refine AList.c 4 rfl rfl rfl (OpJ.assign rfl rfl) ?_
  refine AList.nil ?_
  refine AWp.seq ?_
  refine AWp.block ?_
  refine AWp.seq ?_
  refine AWp.region ?_
  refine AList.c 6 rfl rfl rfl (OpJ.move rfl rfl) ?_
  refine AList.c 7 rfl rfl rfl (OpJ.move rfl rfl) ?_
  refine AList.c 8 rfl rfl rfl (OpJ.nilCheck rfl rfl) ?_
  refine AList.c 9 rfl rfl rfl (OpJ.fieldAddr rfl rfl fd66_0 rfl) ?_
  refine AList.c 10 rfl rfl rfl (OpJ.fieldAddr rfl rfl fd24_2 rfl) ?_
  refine AList.c 11 rfl rfl rfl (OpJ.load (v := .p (cotsV p.bs)) rfl rfl ty22 rfl) ?_
  refine AList.c 12 rfl rfl rfl (OpJ.lenSlice rfl rfl sl22 rfl) ?_
  refine AList.c 13 rfl rfl rfl (OpJ.sub_ rfl rfl rfl (i64ok ?_)) ?_
  · omega
  refine AList.c 14 rfl rfl rfl (OpJ.callP (within_ok _ _ _) rfl rfl rfl rfl rf46) ?_
  refine AList.c 15 rfl rfl rfl (OpJ.not_ rfl rfl) ?_
  refine AList.c 5 rfl rfl rfl (OpJ.assign rfl rfl) ?_
  refine AList.nil ?_
  refine AWp.cond _ rfl (fun hc0 => ?_) (fun hc0 => ?_)
  · skip
    have hr : (!inB b 0 ((p.bs.length : Int) - 1)) = true := hc0
    have e : mayE p S b = 2 := by unfold mayE; rw [if_pos hr]
    refine AWp.seq ?_
    refine AWp.region ?_
    refine AList.c 4 rfl rfl rfl (OpJ.assign rfl rfl) ?_
    refine AList.nil ?_
    refine AWp.norm [0] [(4, _)] [.cells (List.map V.p (shpL p S)) 66] rfl (by repeat (first | exact Sub.nil | refine Sub.cons rfl ?_)) (by show [Blk.cells (renL _ (List.map V.p _)) _] = _; rw [renL_pure]) ?_
    refine AWp.ret ?_
    rw [e]
    exact ⟨.inr rfl, _, resV.one rfl rfl, rfl, rfl⟩
  · skip
    have hr : ¬ (!inB b 0 ((p.bs.length : Int) - 1)) = true := by rw [hc0]; decide
    have hr2 : inB b 0 ((p.bs.length : Int) - 1) = true := by simpa using hr
    unfold inB at hr2
    simp at hr2
    obtain ⟨b, rfl⟩ : ∃ m : Nat, b = (m : Int) := ⟨b.toNat, by omega⟩
    have hb4 : b < 4 := by omega
    have hbl : b < p.bs.length := by omega
    refine AWp.seq ?_
    refine AWp.regionDraw 19 mixed (by kernel_rfl) (by decide) ?_
    refine AQuiet.cons 17 rfl rfl rfl (OpJ.move rfl rfl) ?_
    refine AQuiet.cons 18 rfl rfl rfl (OpJ.move rfl rfl) ?_
    refine AQuiet.cons 19 rfl rfl rfl (OpJ.nilCheck rfl rfl) ?_
    refine AQuiet.cons 20 rfl rfl rfl (OpJ.fieldAddr rfl rfl fd66_1 rfl) ?_
    refine AQuiet.cons 21 rfl rfl rfl (OpJ.indexArrI rfl rfl rfl ar64 el64 hb4) ?_
    refine AQuiet.cons 22 rfl rfl rfl (OpJ.fieldAddr rfl rfl fd63_0 rfl) ?_
    refine AQuiet.cons 23 rfl rfl rfl (OpJ.loadCell (k := (3 + (b * 4 + 0))) (v := (.p (.int .i64 ((S.had b).many : Int)))) rfl rfl ty3 rfl (by omega) (shp_cell p S hb4 (by decide) rfl)) ?_
    refine AQuiet.cons 24 rfl rfl rfl (OpJ.move rfl rfl) ?_
    refine AQuiet.cons 25 rfl rfl rfl (OpJ.nilCheck rfl rfl) ?_
    refine AQuiet.cons 26 rfl rfl rfl (OpJ.fieldAddr rfl rfl fd66_0 rfl) ?_
    refine AQuiet.cons 27 rfl rfl rfl (OpJ.fieldAddr rfl rfl fd24_2 rfl) ?_
    refine AQuiet.cons 28 rfl rfl rfl (OpJ.load (v := .p (cotsV p.bs)) rfl rfl ty22 rfl) ?_
    refine AQuiet.cons 29 rfl rfl rfl (OpJ.move rfl rfl) ?_
    refine AQuiet.cons 30 rfl rfl rfl (OpJ.indexG (g := cot p.bs) cot_get rfl rfl rfl sl22 el22 rfl (fun _ => rfl) (by decide) hbl) ?_
    refine AQuiet.cons 31 rfl rfl rfl (OpJ.fieldAddr rfl rfl fd52_0 rfl) ?_
    refine AQuiet.cons 32 rfl rfl rfl (OpJ.load (v := .p (spnsV (cot p.bs b).dry)) rfl rfl ty50 rfl) ?_
    refine AQuiet.cons 33 rfl rfl rfl (OpJ.lenSlice rfl rfl sl50 rfl) ?_
    refine AQuiet.cons 34 rfl rfl rfl (OpJ.geq rfl rfl rfl) ?_
    refine AQuiet.cons 16 rfl rfl rfl (OpJ.assign rfl rfl) ?_
    refine AQuiet.nil ?_
    refine AList.nil ?_
    refine AWp.cond _ rfl (fun hc1 => ?_) (fun hc1 => ?_)
    · skip
      have hf := of_decide_eq_true hc1
      have e : mayE p S (b : Int) = 9 := by unfold mayE; rw [if_neg hr]; exact if_pos hf
      refine AWp.seq ?_
      refine AWp.region ?_
      refine AList.c 4 rfl rfl rfl (OpJ.assign rfl rfl) ?_
      refine AList.nil ?_
      refine AWp.norm [0] [(4, _)] [.cells (List.map V.p (shpL p S)) 66] rfl (by repeat (first | exact Sub.nil | refine Sub.cons rfl ?_)) (by show [Blk.cells (renL _ (List.map V.p _)) _] = _; rw [renL_pure]) ?_
      refine AWp.ret ?_
      rw [e]
      exact ⟨.inr rfl, _, resV.one rfl rfl, rfl, rfl⟩
    · skip
      have hf := of_decide_eq_false hc1
      have e : mayE p S (b : Int) = 0 := by unfold mayE; rw [if_neg hr]; exact if_neg hf
      refine AWp.skip ?_
      refine AWp.seq ?_
      refine AWp.region ?_
      refine AList.c 4 rfl rfl rfl (OpJ.assign rfl rfl) ?_
      refine AList.nil ?_
      refine AWp.norm [0] [(4, _)] [.cells (List.map V.p (shpL p S)) 66] rfl (by repeat (first | exact Sub.nil | refine Sub.cons rfl ?_)) (by show [Blk.cells (renL _ (List.map V.p _)) _] = _; rw [renL_pure]) ?_
      refine AWp.ret ?_
      rw [e]
      exact ⟨.inr rfl, _, resV.one rfl rfl, rfl, rfl⟩
theorem dip_ok (p : Pnt) (hp : Ok p) (S : Shp) (b : Nat) (t : Int) (hb : b < p.bs.length) (hm : (S.had b).many < (cot p.bs b).dry.length) (M : Int) (hS : ShB M S) (hM : M ≤ 1073741824) (h0 : 0 ≤ t) (h1 : t ≤ 1073741824) : ACalls Try.prog 32 [.ptr 0 0, .p (.agg [.int .i64 ((b : Nat) : Int), .int .i64 t])] [.cells (List.map V.p (shpL p S)) 66] fun v H' => H' = [.cells (List.map V.p (shpL p (dipN p S b t))) 66] := by
  have hb4 : b < 4 := by have := hp.n; omega
  refine ACalls.start (N := 58) Try.func32 rfl rfl (Nat.le_of_ble_eq_true rfl) ?_
  have hs := hp.dry _ (cot_mem hb) _ (spt_mem hm)
  have hd := hp.dip
  have hmy := hS.many b
  refine AWp.toEnd ?_
  refine AWp.seq ?_
  refine AWp.region ?_
  refine AList.c 3 rfl rfl rfl (OpJ.boxImm rfl rfl rfl) ?_
  refine AList.nil ?_
  refine AWp.seq ?_
  refine AWp.regionDraw 7 mixed (by kernel_rfl) (by decide) ?_
  refine AQuiet.cons 7 rfl rfl rfl (OpJ.move rfl rfl) ?_
  refine AQuiet.cons 8 rfl rfl rfl (OpJ.fieldAddr rfl rfl fd49_0 rfl) ?_
  refine AQuiet.cons 9 rfl rfl rfl (OpJ.load (v := .p (.int .i64 ((b : Nat) : Int))) rfl rfl ty3 rfl) ?_
  refine AQuiet.cons 10 rfl rfl rfl (OpJ.nilCheck rfl rfl) ?_
  refine AQuiet.cons 11 rfl rfl rfl (OpJ.fieldAddr rfl rfl fd66_1 rfl) ?_
  refine AQuiet.cons 12 rfl rfl rfl (OpJ.indexArrI rfl rfl rfl ar64 el64 hb4) ?_
  refine AQuiet.cons 4 rfl rfl rfl (OpJ.assign rfl rfl) ?_
  refine AQuiet.nil ?_
  refine AList.nil ?_
  refine AWp.seq ?_
  refine AWp.regionDrawC 18 mixed (by kernel_rfl) (by decide) ?_
  refine AQuietC.cons 13 rfl rfl rfl (OpJ.move rfl rfl) (fun _ => (OpJ.move rfl rfl)) ?_
  refine AQuietC.cons 14 rfl rfl rfl (OpJ.nilCheck rfl rfl) (fun _ => (OpJ.nilCheck rfl rfl)) ?_
  refine AQuietC.cons 15 rfl rfl rfl (OpJ.fieldAddr rfl rfl fd66_0 rfl) (fun _ => (OpJ.fieldAddr rfl rfl fd66_0 rfl)) ?_
  refine AQuietC.cons 16 rfl rfl rfl (OpJ.fieldAddr rfl rfl fd24_2 rfl) (fun _ => (OpJ.fieldAddr rfl rfl fd24_2 rfl)) ?_
  refine AQuietC.cons 17 rfl rfl rfl (OpJ.load (v := .p (cotsV p.bs)) rfl rfl ty22 rfl) (fun _ => (OpJ.load (v := .p (cotsV p.bs)) rfl rfl ty22 rfl)) ?_
  refine AQuietC.cons 18 rfl rfl rfl (OpJ.fieldAddr rfl rfl fd49_0 rfl) (fun _ => (OpJ.fieldAddr rfl rfl fd49_0 rfl)) ?_
  refine AQuietC.cons 19 rfl rfl rfl (OpJ.load (v := .p (.int .i64 ((b : Nat) : Int))) rfl rfl ty3 rfl) (fun _ => (OpJ.load (v := .p (.int .i64 ((b : Nat) : Int))) rfl rfl ty3 rfl)) ?_
  refine AQuietC.cons 20 rfl rfl rfl (OpJ.indexG (g := cot p.bs) cot_get rfl rfl rfl sl22 el22 rfl (fun _ => rfl) (by decide) hb) (fun _ => (OpJ.indexG (g := cot p.bs) cot_get rfl rfl rfl sl22 el22 rfl (fun _ => rfl) (by decide) hb)) ?_
  refine AQuietC.cons 21 rfl rfl rfl (OpJ.fieldAddr rfl rfl fd52_0 rfl) (fun _ => (OpJ.fieldAddr rfl rfl fd52_0 rfl)) ?_
  refine AQuietC.cons 22 rfl rfl rfl (OpJ.load (v := .p (spnsV (cot p.bs b).dry)) rfl rfl ty50 rfl) (fun _ => (OpJ.load (v := .p (spnsV (cot p.bs b).dry)) rfl rfl ty50 rfl)) ?_
  refine AQuietC.cons 23 rfl rfl rfl (OpJ.move rfl rfl) (fun _ => (OpJ.move rfl rfl)) ?_
  refine AQuietC.cons 24 rfl rfl rfl (OpJ.nilCheck rfl rfl) (fun _ => (OpJ.nilCheck rfl rfl)) ?_
  refine AQuietC.cons 25 rfl rfl rfl (OpJ.fieldAddr rfl rfl fd63_0 rfl) (fun _ => (OpJ.fieldAddr rfl rfl fd63_0 rfl)) ?_
  refine AQuietC.cons 26 rfl rfl rfl (OpJ.loadCell (k := (3 + (b * 4 + 0))) (v := (.p (.int .i64 ((S.had b).many : Int)))) rfl rfl ty3 rfl (by omega) (shp_cell p S hb4 (by decide) rfl)) (fun _ => (OpJ.loadCell (k := (3 + (b * 4 + 0))) (v := (.p (.int .i64 ((S.had b).many : Int)))) rfl rfl ty3 rfl (by omega) (shp_cell p S hb4 (by decide) rfl))) ?_
  refine AQuietC.cons 27 rfl rfl rfl (OpJ.indexG (g := spt (cot p.bs b).dry) spt_get rfl rfl rfl sl50 el50 rfl (fun _ => rfl) (by decide) hm) (fun _ => (OpJ.indexG (g := spt (cot p.bs b).dry) spt_get rfl rfl rfl sl50 el50 rfl (fun _ => rfl) (by decide) hm)) ?_
  refine AQuietC.cons 28 rfl rfl rfl (OpJ.load (v := .p (.agg (spt (cot p.bs b).dry (S.had b).many).cells)) rfl rfl ty35 rfl) (fun _ => (OpJ.load (v := .p (.agg (spt (cot p.bs b).dry (S.had b).many).cells)) rfl rfl ty35 rfl)) ?_
  refine AQuietC.lay 5 rfl rfl rfl (OpJ.allocOwn rfl zr35 rfl) ?_
  refine AQuietC.put rfl rfl (by decide) (OpJ.store rfl rfl rfl rfl rfl ty35 rfl rfl) rfl ?_
  refine AQuietC.nil ?_
  refine AList.nil ?_
  refine AWp.seq ?_
  refine AWp.regionDraw 9 mixed (by kernel_rfl) (by decide) ?_
  refine AQuiet.cons 29 rfl rfl rfl (OpJ.fieldAddr rfl rfl fd49_1 rfl) ?_
  refine AQuiet.cons 30 rfl rfl rfl (OpJ.load (v := .p (.int .i64 t)) rfl rfl ty3 rfl) ?_
  refine AQuiet.cons 31 rfl rfl rfl (OpJ.move rfl rfl) ?_
  refine AQuiet.cons 32 rfl rfl rfl (OpJ.nilCheck rfl rfl) ?_
  refine AQuiet.cons 33 rfl rfl rfl (OpJ.fieldAddr rfl rfl fd66_0 rfl) ?_
  refine AQuiet.cons 34 rfl rfl rfl (OpJ.fieldAddr rfl rfl fd24_0 rfl) ?_
  refine AQuiet.cons 35 rfl rfl rfl (OpJ.loadCell (k := 0) (v := (.p (.int .i64 p.dip))) rfl rfl ty3 rfl rfl rfl) ?_
  refine AQuiet.cons 36 rfl rfl rfl (OpJ.add rfl rfl rfl (i64ok ?_)) ?_
  · omega
  refine AQuiet.cons 6 rfl rfl rfl (OpJ.assign rfl rfl) ?_
  refine AQuiet.nil ?_
  refine AList.nil ?_
  refine AWp.seq ?_
  refine AWp.regionDraw 17 mixed (by kernel_rfl) (by decide) ?_
  refine AQuiet.cons 37 rfl rfl rfl (OpJ.move rfl rfl) ?_
  refine AQuiet.cons 38 rfl rfl rfl (OpJ.move rfl rfl) ?_
  refine AQuiet.cons 39 rfl rfl rfl (OpJ.nilCheck rfl rfl) ?_
  refine AQuiet.cons 40 rfl rfl rfl (OpJ.fieldAddr rfl rfl fd63_0 rfl) ?_
  refine AQuiet.cons 41 rfl rfl rfl (OpJ.loadCell (k := (3 + (b * 4 + 0))) (v := (.p (.int .i64 ((S.had b).many : Int)))) rfl rfl ty3 rfl (by omega) (shp_cell p S hb4 (by decide) rfl)) ?_
  refine AQuiet.cons 42 rfl rfl rfl (OpJ.add (m := (((S.had b).many + 1 : Nat) : Int)) rfl rfl rfl ((i64ok ?_).trans ?_)) ?_
  · omega
  · rfl
  refine AQuiet.cons 43 rfl rfl rfl (OpJ.move rfl rfl) ?_
  refine AQuiet.cons 44 rfl rfl rfl (OpJ.move rfl rfl) ?_
  refine AQuiet.cons 45 rfl rfl rfl (OpJ.fieldAddr rfl rfl fd35_0 rfl) ?_
  refine AQuiet.cons 46 rfl rfl rfl (OpJ.load (v := .p (.int .i64 (spt (cot p.bs b).dry (S.had b).many).lo)) rfl rfl ty3 rfl) ?_
  refine AQuiet.cons 47 rfl rfl rfl (OpJ.add rfl rfl rfl (i64ok ?_)) ?_
  · omega
  refine AQuiet.cons 48 rfl rfl rfl (OpJ.move rfl rfl) ?_
  refine AQuiet.cons 49 rfl rfl rfl (OpJ.fieldAddr rfl rfl fd35_1 rfl) ?_
  refine AQuiet.cons 50 rfl rfl rfl (OpJ.load (v := .p (.int .i64 (spt (cot p.bs b).dry (S.had b).many).hi)) rfl rfl ty3 rfl) ?_
  refine AQuiet.cons 51 rfl rfl rfl (OpJ.add rfl rfl rfl (i64ok ?_)) ?_
  · omega
  refine AQuiet.cons 52 rfl rfl rfl (OpJ.buildR (v := .p (.agg (hngN p S b t).cells)) rfl bd63 rfl rfl rfl) ?_
  refine AQuiet.cons 53 rfl rfl rfl (OpJ.nilCheck rfl rfl) ?_
  refine AQuiet.nil ?_
  refine AList.c0 rfl rfl (OpJ.store (H' := [.cells (List.map V.p (shpL p (S.put b (hngN p S b t)))) 66, .cells ((spt (cot p.bs b).dry (S.had b).many).cells.map .p) 35]) rfl rfl rfl rfl rfl ty63 rfl (shp_store p S rfl hb4 (by omega) (hngN p S b t))) ?_
  refine AList.nil ?_
  refine AWp.region ?_
  refine AList.c 54 rfl rfl rfl (OpJ.move rfl rfl) ?_
  refine AList.c 55 rfl rfl rfl (OpJ.move rfl rfl) ?_
  refine AList.c 56 rfl rfl rfl (OpJ.nilCheck rfl rfl) ?_
  refine AList.c 57 rfl rfl rfl (OpJ.fieldAddr rfl rfl fd66_2 rfl) ?_
  refine AList.c0 rfl rfl (OpJ.storeAt (k := 19) (cs2 := (List.map V.p (shpL p (dipN p S b t)))) rfl rfl rfl rfl rfl rfl ty3 rfl rfl rfl (shpL_lt _ _) rfl rfl) ?_
  refine AList.nil ?_
  exact ⟨[], _, To.done [0] rfl Sub.nil (by show [Blk.cells (renL _ (List.map V.p _)) _] = _; rw [renL_pure]), .inl rfl, _, resV.none_ rfl, rfl⟩
theorem done_ok (p : Pnt) (S : Shp) : ACalls Try.prog 41 [.ptr 0 0] [.cells (List.map V.p (shpL p S)) 66] fun v H' => v = .p (.int .i64 (doneN S)) ∧ H' = [.cells (List.map V.p (shpL p S)) 66] := by
  refine ACalls.start (N := 18) Try.func41 rfl rfl (Nat.le_of_ble_eq_true rfl) ?_
  refine AWp.seq ?_
  refine AWp.region ?_
  refine AList.c 2 rfl rfl rfl (OpJ.assign rfl rfl) ?_
  refine AList.nil ?_
  refine AWp.seq ?_
  refine AWp.seq ?_
  refine AWp.region ?_
  refine AList.c 5 rfl rfl rfl (OpJ.move rfl rfl) ?_
  refine AList.c 6 rfl rfl rfl (OpJ.nilCheck rfl rfl) ?_
  refine AList.c 7 rfl rfl rfl (OpJ.fieldAddr rfl rfl fd66_1 rfl) ?_
  refine AList.c 8 rfl rfl rfl (OpJ.load (v := .p (.agg ((hadL S).flatMap Hng.cells))) rfl rfl ty64 rfl) ?_
  refine AList.c 9 rfl rfl rfl (OpJ.move rfl rfl) ?_
  refine AList.nil ?_
  refine AWp.block ?_
  refine AWp.unroll 5 ?_
  refine ARounds.next ?_
  refine AWp.seq ?_
  refine AWp.region ?_
  refine AList.c 10 rfl rfl rfl (OpJ.lss rfl rfl rfl) ?_
  refine AList.nil ?_
  refine AWp.seq ?_
  refine AWp.condT rfl ?_
  refine AWp.skip ?_
  refine AWp.seq ?_
  refine AWp.block ?_
  refine AWp.seq ?_
  refine AWp.region ?_
  refine AList.c 11 rfl rfl rfl (OpJ.indexV (v := .p (.agg (S.had 0).cells)) rfl rfl rfl av64 (by decide) (by decide) rfl) ?_
  refine AList.c 4 rfl rfl rfl (OpJ.allocOwn rfl zr63 rfl) ?_
  refine AList.c0 rfl rfl (OpJ.store rfl rfl rfl rfl rfl ty63 rfl rfl) ?_
  refine AList.nil ?_
  refine AWp.region ?_
  refine AList.c 12 rfl rfl rfl (OpJ.move rfl rfl) ?_
  refine AList.c 13 rfl rfl rfl (OpJ.fieldAddr rfl rfl fd63_3 rfl) ?_
  refine AList.c 14 rfl rfl rfl (OpJ.load (v := .p (.int .i64 (S.had 0).surely)) rfl rfl ty3 rfl) ?_
  refine AList.c 15 rfl rfl rfl (OpJ.max2 rfl rfl rfl) ?_
  refine AList.c 2 rfl rfl rfl (OpJ.assign rfl rfl) ?_
  refine AList.nil ?_
  refine AWp.region ?_
  refine AList.c 16 rfl rfl rfl (OpJ.add rfl rfl rfl (i64ok ?_)) ?_
  · decide
  refine AList.c 9 rfl rfl rfl (OpJ.move rfl rfl) ?_
  refine AList.nil ?_
  refine ARounds.next ?_
  refine AWp.norm [0] [(0, _), (2, _), (8, _), (9, _)] [.cells (List.map V.p (shpL p S)) 66] rfl (by repeat (first | exact Sub.nil | refine Sub.cons rfl ?_)) (by show [Blk.cells (renL _ (List.map V.p _)) _] = _; rw [renL_pure]) ?_
  refine AWp.seq ?_
  refine AWp.region ?_
  refine AList.c 10 rfl rfl rfl (OpJ.lss rfl rfl rfl) ?_
  refine AList.nil ?_
  refine AWp.seq ?_
  refine AWp.condT rfl ?_
  refine AWp.skip ?_
  refine AWp.seq ?_
  refine AWp.block ?_
  refine AWp.seq ?_
  refine AWp.region ?_
  refine AList.c 11 rfl rfl rfl (OpJ.indexV (v := .p (.agg (S.had 1).cells)) rfl rfl rfl av64 (by decide) (by decide) rfl) ?_
  refine AList.c 4 rfl rfl rfl (OpJ.allocOwn rfl zr63 rfl) ?_
  refine AList.c0 rfl rfl (OpJ.store rfl rfl rfl rfl rfl ty63 rfl rfl) ?_
  refine AList.nil ?_
  refine AWp.region ?_
  refine AList.c 12 rfl rfl rfl (OpJ.move rfl rfl) ?_
  refine AList.c 13 rfl rfl rfl (OpJ.fieldAddr rfl rfl fd63_3 rfl) ?_
  refine AList.c 14 rfl rfl rfl (OpJ.load (v := .p (.int .i64 (S.had 1).surely)) rfl rfl ty3 rfl) ?_
  refine AList.c 15 rfl rfl rfl (OpJ.max2 rfl rfl rfl) ?_
  refine AList.c 2 rfl rfl rfl (OpJ.assign rfl rfl) ?_
  refine AList.nil ?_
  refine AWp.region ?_
  refine AList.c 16 rfl rfl rfl (OpJ.add rfl rfl rfl (i64ok ?_)) ?_
  · decide
  refine AList.c 9 rfl rfl rfl (OpJ.move rfl rfl) ?_
  refine AList.nil ?_
  refine ARounds.next ?_
  refine AWp.norm [0] [(0, _), (2, _), (8, _), (9, _)] [.cells (List.map V.p (shpL p S)) 66] rfl (by repeat (first | exact Sub.nil | refine Sub.cons rfl ?_)) (by show [Blk.cells (renL _ (List.map V.p _)) _] = _; rw [renL_pure]) ?_
  refine AWp.seq ?_
  refine AWp.region ?_
  refine AList.c 10 rfl rfl rfl (OpJ.lss rfl rfl rfl) ?_
  refine AList.nil ?_
  refine AWp.seq ?_
  refine AWp.condT rfl ?_
  refine AWp.skip ?_
  refine AWp.seq ?_
  refine AWp.block ?_
  refine AWp.seq ?_
  refine AWp.region ?_
  refine AList.c 11 rfl rfl rfl (OpJ.indexV (v := .p (.agg (S.had 2).cells)) rfl rfl rfl av64 (by decide) (by decide) rfl) ?_
  refine AList.c 4 rfl rfl rfl (OpJ.allocOwn rfl zr63 rfl) ?_
  refine AList.c0 rfl rfl (OpJ.store rfl rfl rfl rfl rfl ty63 rfl rfl) ?_
  refine AList.nil ?_
  refine AWp.region ?_
  refine AList.c 12 rfl rfl rfl (OpJ.move rfl rfl) ?_
  refine AList.c 13 rfl rfl rfl (OpJ.fieldAddr rfl rfl fd63_3 rfl) ?_
  refine AList.c 14 rfl rfl rfl (OpJ.load (v := .p (.int .i64 (S.had 2).surely)) rfl rfl ty3 rfl) ?_
  refine AList.c 15 rfl rfl rfl (OpJ.max2 rfl rfl rfl) ?_
  refine AList.c 2 rfl rfl rfl (OpJ.assign rfl rfl) ?_
  refine AList.nil ?_
  refine AWp.region ?_
  refine AList.c 16 rfl rfl rfl (OpJ.add rfl rfl rfl (i64ok ?_)) ?_
  · decide
  refine AList.c 9 rfl rfl rfl (OpJ.move rfl rfl) ?_
  refine AList.nil ?_
  refine ARounds.next ?_
  refine AWp.norm [0] [(0, _), (2, _), (8, _), (9, _)] [.cells (List.map V.p (shpL p S)) 66] rfl (by repeat (first | exact Sub.nil | refine Sub.cons rfl ?_)) (by show [Blk.cells (renL _ (List.map V.p _)) _] = _; rw [renL_pure]) ?_
  refine AWp.seq ?_
  refine AWp.region ?_
  refine AList.c 10 rfl rfl rfl (OpJ.lss rfl rfl rfl) ?_
  refine AList.nil ?_
  refine AWp.seq ?_
  refine AWp.condT rfl ?_
  refine AWp.skip ?_
  refine AWp.seq ?_
  refine AWp.block ?_
  refine AWp.seq ?_
  refine AWp.region ?_
  refine AList.c 11 rfl rfl rfl (OpJ.indexV (v := .p (.agg (S.had 3).cells)) rfl rfl rfl av64 (by decide) (by decide) rfl) ?_
  refine AList.c 4 rfl rfl rfl (OpJ.allocOwn rfl zr63 rfl) ?_
  refine AList.c0 rfl rfl (OpJ.store rfl rfl rfl rfl rfl ty63 rfl rfl) ?_
  refine AList.nil ?_
  refine AWp.region ?_
  refine AList.c 12 rfl rfl rfl (OpJ.move rfl rfl) ?_
  refine AList.c 13 rfl rfl rfl (OpJ.fieldAddr rfl rfl fd63_3 rfl) ?_
  refine AList.c 14 rfl rfl rfl (OpJ.load (v := .p (.int .i64 (S.had 3).surely)) rfl rfl ty3 rfl) ?_
  refine AList.c 15 rfl rfl rfl (OpJ.max2 rfl rfl rfl) ?_
  refine AList.c 2 rfl rfl rfl (OpJ.assign rfl rfl) ?_
  refine AList.nil ?_
  refine AWp.region ?_
  refine AList.c 16 rfl rfl rfl (OpJ.add rfl rfl rfl (i64ok ?_)) ?_
  · decide
  refine AList.c 9 rfl rfl rfl (OpJ.move rfl rfl) ?_
  refine AList.nil ?_
  refine ARounds.next ?_
  refine AWp.norm [0] [(0, _), (2, _), (8, _), (9, _)] [.cells (List.map V.p (shpL p S)) 66] rfl (by repeat (first | exact Sub.nil | refine Sub.cons rfl ?_)) (by show [Blk.cells (renL _ (List.map V.p _)) _] = _; rw [renL_pure]) ?_
  refine AWp.seq ?_
  refine AWp.region ?_
  refine AList.c 10 rfl rfl rfl (OpJ.lss rfl rfl rfl) ?_
  refine AList.nil ?_
  refine AWp.seq ?_
  refine AWp.condF rfl ?_
  refine AWp.exit ?_
  refine AWp.seq ?_
  refine AWp.region ?_
  refine AList.c 17 rfl rfl rfl (OpJ.move rfl rfl) ?_
  refine AList.c 2 rfl rfl rfl (OpJ.assign rfl rfl) ?_
  refine AList.nil ?_
  refine AWp.norm [0] [(2, _)] [.cells (List.map V.p (shpL p S)) 66] rfl (by repeat (first | exact Sub.nil | refine Sub.cons rfl ?_)) (by show [Blk.cells (renL _ (List.map V.p _)) _] = _; rw [renL_pure]) ?_
  refine AWp.ret ?_
  exact ⟨.inr rfl, _, resV.one rfl rfl, rfl, rfl⟩
end Go.Proofs.Ytibgdkaipleajaa
end

section
set_option linter.unusedVariables false
set_option maxRecDepth 100000
set_option maxHeartbeats 4000000
set_option linter.unusedSimpArgs false
namespace Go.Proofs.Ytibgdkaipleajaa
open Go.AF
/-- What is seen of the caller's own blocks: the shop, and the variable that points to it. -/
def RrH (p : Pnt) (S : Shp) (h : List Blk) : Prop := h[0]? = some (.cells ((shpL p S).map V.p) 66) ∧ h[2]? = some (.cells [.ptr 0 0] 61)
theorem rr_n {p : Pnt} {S : Shp} {h : List Blk} (hr : RrH p S h) : 2 < h.length := (List.getElem?_eq_some_iff.1 hr.2).1
theorem rr_c {p : Pnt} {S : Shp} {h : List Blk} (hr : RrH p S h) : aload h false 1 (.ptr 2 0) = some (.ptr 0 0) := by
  unfold aload
  dsimp only
  rw [hr.2]
  rfl
theorem rr_0 {p : Pnt} {S : Shp} {h : List Blk} (hr : RrH p S h) : blkCells h[0]? = some ((shpL p S).map V.p) := by rw [hr.1]; rfl
theorem rr_b {p : Pnt} {S : Shp} {h : List Blk} (hr : RrH p S h) : aload h false 1 (.ptr 0 2) = some (.p (cotsV p.bs)) := by
  unfold aload
  dsimp only
  rw [rr_0 hr]
  rfl
theorem hang_seq (p : Pnt) (hp : Ok p) (S : Shp) (but hour : Int) : ASeqR Try.prog 3 63 (fun y => [y, .ptr 2 0, .p (.ip [.int .i64 but] 0), .p (.ip [.int .i64 hour] 0)]) (RrH p S) (hangX (hangL p S but hour)) := by
  intro l κ nn inv fin hk0 hκ hnn hfin hb h0 hi0
  have hn4 := hp.n
  refine ACallsK.of_body (N := 44) Try.func63 rfl rfl (Nat.le_of_ble_eq_true rfl) ?_
  refine AWp.seq ?_
  refine AWp.region ?_
  refine AList.c 7 rfl rfl rfl (OpJ.load (v := .ptr 0 0) rfl rfl ty61 (rr_c (hnn _ _ hi0).2)) ?_
  refine AList.c 8 rfl rfl rfl (OpJ.nilCheck rfl rfl) ?_
  refine AList.c 9 rfl rfl rfl (OpJ.fieldAddr rfl rfl fd66_0 rfl) ?_
  refine AList.c 10 rfl rfl rfl (OpJ.fieldAddr rfl rfl fd24_2 rfl) ?_
  refine AList.c 11 rfl rfl rfl (OpJ.load (v := .p (cotsV p.bs)) rfl rfl ty22 (rr_b (hnn _ _ hi0).2)) ?_
  refine AList.c 12 rfl rfl rfl (OpJ.lenSlice rfl rfl sl22 rfl) ?_
  refine AList.c 13 rfl rfl rfl (OpJ.move rfl rfl) ?_
  refine AList.nil ?_
  refine AWp.block ?_
  refine AWp.loopHL [0, 1, 2, 3, 12] (fun g => [(13, .p (.int .i64 ((g.1 : Nat) : Int)))]) (fun g => g.2) (fun g => g.1 ≤ p.bs.length ∧ inv (hangF S but hour g.1).length g.2) (fun g => p.bs.length - g.1) (0, h0) (show (0 : Nat) ≤ p.bs.length ∧ inv (hangF S but hour 0).length h0 from ⟨Nat.zero_le _, hi0⟩) (To.sub (Sub.chk (Sub.cons rfl (Sub.nil)))) (fun g hg => ?_)
  obtain ⟨k, hcur⟩ := g
  obtain ⟨hle, hinv⟩ := hg
  dsimp only at hle hinv ⊢
  have hR := (hnn _ _ hinv).2
  have hln := (hnn _ _ hinv).1
  have h3 := rr_n hR
  refine AWp.of_wf fun hw => ?_
  refine AWp.seq ?_
  refine AWp.region ?_
  refine AList.c 14 rfl rfl rfl (OpJ.lss rfl rfl rfl) ?_
  refine AList.nil ?_
  refine AWp.seq ?_
  refine AWp.cond _ rfl (fun hc0 => ?_) (fun hc0 => ?_)
  · skip
    have hk : k < p.bs.length := by have h := of_decide_eq_true hc0; omega
    have hk4 : k < 4 := by omega
    refine AWp.skip ?_
    refine AWp.seq ?_
    refine AWp.block ?_
    refine AWp.seq ?_
    refine AWp.region ?_
    refine AList.c 15 rfl rfl rfl (OpJ.move rfl rfl) ?_
    refine AList.c 5 rfl rfl rfl (OpJ.assign rfl rfl) ?_
    refine AList.nil ?_
    refine AWp.seq ?_
    refine AWp.region ?_
    refine AList.c 16 rfl rfl rfl (OpJ.load (v := .ptr 0 0) rfl rfl ty61 (rr_c hR)) ?_
    refine AList.c 17 rfl rfl rfl (OpJ.move rfl rfl) ?_
    refine AList.c 18 rfl rfl rfl (OpJ.nilCheck rfl rfl) ?_
    refine AList.c 19 rfl rfl rfl (OpJ.fieldAddr rfl rfl fd66_1 rfl) ?_
    refine AList.c 20 rfl rfl rfl (OpJ.indexArrI rfl rfl rfl ar64 el64 hk4) ?_
    refine AList.c 21 rfl rfl rfl (OpJ.load (v := .p (.agg (S.had k).cells)) rfl rfl ty63 (shp_hung p S (rr_0 hR) hk4 (by omega))) ?_
    refine AList.c 6 rfl rfl rfl (OpJ.allocOwn rfl zr63 rfl) ?_
    refine AList.c0 rfl rfl (OpJ.store (H' := (hcur ++ [.cells ((S.had k).cells.map .p) 63])) rfl rfl rfl rfl rfl ty63 rfl (astore_last (vs := (S.had k).cells.map .p) (by rfl))) ?_
    refine AList.nil ?_
    refine AWp.seq ?_
    refine AWp.to (To.frzPop (s := 6) (xs := (S.had k).cells) (T2 := [(0, _), (1, _), (2, _), (3, _), (5, _), (12, _), (13, _)]) hw (by omega) rfl rfl ⟨rfl, trivial, rfl, (by show _ < _; omega), rfl, trivial, rfl, trivial, rfl, trivial, rfl, trivial, rfl, trivial, trivial⟩) ?_
    refine AWp.region ?_
    refine AList.c 22 rfl rfl rfl (OpJ.move rfl rfl) ?_
    refine AList.c 23 rfl rfl rfl (OpJ.load (v := .p (.int .i64 but)) rfl rfl ty3 rfl) ?_
    refine AList.c 24 rfl rfl rfl (OpJ.neq rfl rfl rfl) ?_
    refine AList.c 25 rfl rfl rfl (OpJ.move rfl rfl) ?_
    refine AList.g 26 25 rfl rfl rfl rfl rfl rfl rfl [(6, _)] (fun h => And.intro (.inl rfl) (trivial)) (fun h => (OpJ.fieldAddr rfl rfl fd63_0 rfl)) ?_
    refine AList.g 27 25 rfl rfl rfl rfl rfl rfl rfl [(26, _)] (fun h => And.intro (.inr ⟨_, rfl, h⟩) (trivial)) (fun h => (OpJ.load (v := .p (.int .i64 ((S.had k).many : Int))) rfl rfl ty3 rfl)) ?_
    refine AList.g 28 25 rfl rfl rfl rfl rfl rfl rfl [(27, _)] (fun h => And.intro (.inr ⟨_, rfl, h⟩) (trivial)) (fun h => (OpJ.gtr rfl rfl rfl)) ?_
    refine AList.c 29 rfl rfl rfl (OpJ.and_ rfl rfl rfl ?_) ?_
    · first | (intro h; rw [h]; rfl) | (intro h; simp_all)
    refine AList.c 30 rfl rfl rfl (OpJ.move rfl rfl) ?_
    refine AList.g 31 30 rfl rfl rfl rfl rfl rfl rfl [(3, _)] (fun h => And.intro (.inl rfl) (trivial)) (fun h => (OpJ.load (v := .p (.int .i64 hour)) rfl rfl ty3 rfl)) ?_
    refine AList.g 32 30 rfl rfl rfl rfl rfl rfl rfl [(6, _)] (fun h => And.intro (.inl rfl) (trivial)) (fun h => (OpJ.fieldAddr rfl rfl fd63_3 rfl)) ?_
    refine AList.g 33 30 rfl rfl rfl rfl rfl rfl rfl [(32, _)] (fun h => And.intro (.inr ⟨_, rfl, h⟩) (trivial)) (fun h => (OpJ.load (v := .p (.int .i64 (S.had k).surely)) rfl rfl ty3 rfl)) ?_
    refine AList.g 34 30 rfl rfl rfl rfl rfl rfl rfl [(31, _), (33, _)] (fun h => And.intro (.inr ⟨_, rfl, h⟩) (And.intro (.inr ⟨_, rfl, h⟩) (trivial))) (fun h => (OpJ.lss rfl rfl rfl)) ?_
    refine AList.c 35 rfl rfl rfl (OpJ.and_ rfl rfl rfl ?_) ?_
    · first | (intro h; rw [h]; rfl) | (intro h; simp_all)
    refine AList.c 36 rfl rfl rfl (OpJ.move rfl rfl) ?_
    refine AList.g 37 36 rfl rfl rfl rfl rfl rfl rfl [(0, _)] (fun h => And.intro (.inl rfl) (trivial)) (fun h => (OpJ.move rfl rfl)) ?_
    refine AList.g 38 36 rfl rfl rfl rfl rfl rfl rfl [(6, _)] (fun h => And.intro (.inl rfl) (trivial)) (fun h => (OpJ.fieldAddr rfl rfl fd63_3 rfl)) ?_
    refine AList.g 39 36 rfl rfl rfl rfl rfl rfl rfl [(38, _)] (fun h => And.intro (.inr ⟨_, rfl, h⟩) (trivial)) (fun h => (OpJ.load (v := .p (.int .i64 (S.had k).surely)) rfl rfl ty3 rfl)) ?_
    refine AList.yieldGK 3 40 36 hk0 (by omega) rfl rfl rfl rfl rfl rfl rfl rfl [(37, _), (39, _)] (fun h => And.intro (.inr ⟨_, rfl, h⟩) (And.intro (.inr ⟨_, rfl, h⟩) trivial)) rfl rfl (fun h => by exact hb _ _ _ hinv (hangX_at hk (show hangB S but hour k = true from eq_of_beq h))) ?_
    intro b2 h2 hq1 hq2
    refine AList.g 41 36 rfl rfl rfl rfl rfl rfl rfl [(40, _)] (fun h => And.intro (.inr ⟨_, rfl, h⟩) (trivial)) (fun h => (OpJ.not_ rfl rfl)) ?_
    refine AList.c 42 rfl rfl rfl (OpJ.and_ rfl rfl rfl ?_) ?_
    · first | (intro h; rw [h]; rfl) | (intro h; simp_all)
    refine AList.nil ?_
    refine AWp.cond _ rfl (fun hc1 => ?_) (fun hc1 => ?_)
    · skip
      have hend : inv (hangX (hangL p S but hour)).length h2 ∨ fin h2 := by
        cases e : hangB S but hour k with
        | true =>
          have h4 := hq1 (by show (hangB S but hour k == true) = true; rw [e]; rfl)
          have hb2 : b2 = false := by have h5 : (hangB S but hour k && !b2) = true := hc1; rw [e] at h5; simpa using h5
          rw [if_neg (by rw [hb2]; decide)] at h4
          exact .inr h4
        | false =>
          exfalso
          have h5 : (hangB S but hour k && !b2) = true := hc1
          rw [e] at h5
          cases h5
      refine AWp.ret ?_
      exact ⟨.inr rfl, _, resV.none_ rfl, hend⟩
    · skip
      have hN : inv (hangF S but hour (k + 1)).length h2 := by
        cases e : hangB S but hour k with
        | true =>
          have h4 := hq1 (by show (hangB S but hour k == true) = true; rw [e]; rfl)
          have hb2 : b2 = true := by have h5 : (hangB S but hour k && !b2) = false := hc1; rw [e] at h5; simpa using h5
          rw [if_pos hb2] at h4
          rw [hangF_T e, List.length_append]
          exact h4
        | false =>
          rw [hq2 (by show (hangB S but hour k == true) = false; rw [e]; rfl), hangF_F e]
          exact hinv
      refine AWp.skip ?_
      refine AWp.region ?_
      refine AList.c 43 rfl rfl rfl (OpJ.add rfl rfl rfl (i64ok ?_)) ?_
      · omega
      refine AList.c 13 rfl rfl rfl (OpJ.move rfl rfl) ?_
      refine AList.nil ?_
      refine ⟨(k + 1, h2), ?_, ?_, ?_⟩
      · exact ⟨by dsimp only; omega, hN⟩
      · show p.bs.length - (k + 1) < p.bs.length - k
        omega
      exact To.sub (Sub.cons rfl (by repeat (first | exact Sub.nil | refine Sub.cons rfl ?_)))
  · skip
    obtain rfl : k = p.bs.length := by have h := of_decide_eq_false hc0; omega
    refine AWp.exit ?_
    exact ⟨.inl rfl, _, resV.none_ rfl, .inl (by rw [hangX_len]; exact hinv)⟩
theorem hanging_ok (b1 : Blk) (shc : List V) (but hour : Int) : ACalls Try.prog 60 [.ptr 0 0, .p (.int .i64 but), .p (.int .i64 hour)] [.cells shc 66, b1] fun v H' => v = (.func (.func 63) [] [.ptr 2 0, .p (.ip [.int .i64 but] 0), .p (.ip [.int .i64 hour] 0)]) ∧ H' = [.cells shc 66, b1, .cells [.ptr 0 0] 61] := by
  refine ACalls.start (N := 8) Try.func60 rfl rfl (Nat.le_of_ble_eq_true rfl) ?_
  refine AWp.seq ?_
  refine AWp.region ?_
  refine AList.c 3 rfl rfl rfl (OpJ.boxOwn rfl rfl rfl) ?_
  refine AList.c 4 rfl rfl rfl (OpJ.boxImm rfl rfl rfl) ?_
  refine AList.c 5 rfl rfl rfl (OpJ.boxImm rfl rfl rfl) ?_
  refine AList.c 6 rfl rfl rfl (OpJ.assign rfl rfl) ?_
  refine AList.nil ?_
  refine AWp.seq ?_
  refine AWp.region ?_
  refine AList.c 7 rfl rfl rfl (OpJ.makeFunc rfl rfl rfl) ?_
  refine AList.c 6 rfl rfl rfl (OpJ.assign rfl rfl) ?_
  refine AList.nil ?_
  refine AWp.ret ?_
  exact ⟨.inr rfl, _, resV.one rfl rfl, rfl, rfl⟩
end Go.Proofs.Ytibgdkaipleajaa
end

section
set_option linter.unusedVariables false
set_option maxRecDepth 100000
set_option maxHeartbeats 4000000
set_option linter.unusedSimpArgs false
namespace Go.Proofs.Ytibgdkaipleajaa
open Go.AF
theorem isNaN_ok (x : Int) : Pure Try.prog 85 [.int .i64 x] (.bool false) := by
  refine Pure.start (N := 6) Try.func85 rfl rfl (Nat.le_of_ble_eq_true rfl) ?_
  refine AWp.seq ?_
  refine AWp.region ?_
  refine AList.c 2 rfl rfl rfl (OpJ.assign rfl rfl) ?_
  refine AList.nil ?_
  refine AWp.seq ?_
  refine AWp.region ?_
  refine AList.c 3 rfl rfl rfl (OpJ.move rfl rfl) ?_
  refine AList.c 4 rfl rfl rfl (OpJ.move rfl rfl) ?_
  refine AList.c 5 rfl rfl rfl (OpJ.neq rfl rfl rfl) ?_
  refine AList.c 2 rfl rfl rfl (OpJ.assign rfl rfl) ?_
  refine AList.nil ?_
  refine AWp.ret ?_
  refine Fin.oneE rfl rfl ?_
  simp
theorem less_ok (x y : Int) : Pure Try.prog 75 [.int .i64 x, .int .i64 y] (.bool (decide (x < y))) := by
  refine Pure.start (N := 17) Try.func75 rfl rfl (Nat.le_of_ble_eq_true rfl) ?_
  refine AWp.seq ?_
  refine AWp.region ?_
  refine AList.c 4 rfl rfl rfl (OpJ.assign rfl rfl) ?_
  refine AList.nil ?_
  refine AWp.seq ?_
  refine AWp.region ?_
  refine AList.c 5 rfl rfl rfl (OpJ.move rfl rfl) ?_
  refine AList.c 6 rfl rfl rfl (OpJ.callP (isNaN_ok _) rfl rfl rfl rfl rf85) ?_
  refine AList.c 7 rfl rfl rfl (OpJ.move rfl rfl) ?_
  refine AList.g 8 7 rfl rfl rfl rfl rfl rfl rfl [(1, _)] (fun h => And.intro (.inl rfl) (trivial)) (fun h => (OpJ.move rfl rfl)) ?_
  refine AList.g 9 7 rfl rfl rfl rfl rfl rfl rfl [(8, _)] (fun h => And.intro (.inr ⟨_, rfl, h⟩) (trivial)) (fun h => (OpJ.callP (isNaN_ok _) rfl rfl rfl rfl rf85)) ?_
  refine AList.g 10 7 rfl rfl rfl rfl rfl rfl rfl [(9, _)] (fun h => And.intro (.inr ⟨_, rfl, h⟩) (trivial)) (fun h => (OpJ.not_ rfl rfl)) ?_
  refine AList.c 11 rfl rfl rfl (OpJ.and_ rfl rfl rfl ?_) ?_
  · first | (intro h; rw [h]; rfl) | (intro h; simp_all)
  refine AList.c 12 rfl rfl rfl (OpJ.move rfl rfl) ?_
  refine AList.g 13 12 rfl rfl rfl rfl rfl rfl rfl [(0, _)] (fun h => And.intro (.inl rfl) (trivial)) (fun h => (OpJ.move rfl rfl)) ?_
  refine AList.g 14 12 rfl rfl rfl rfl rfl rfl rfl [(1, _)] (fun h => And.intro (.inl rfl) (trivial)) (fun h => (OpJ.move rfl rfl)) ?_
  refine AList.g 15 12 rfl rfl rfl rfl rfl rfl rfl [(13, _), (14, _)] (fun h => And.intro (.inr ⟨_, rfl, h⟩) (And.intro (.inr ⟨_, rfl, h⟩) (trivial))) (fun h => (OpJ.lss rfl rfl rfl)) ?_
  refine AList.c 16 rfl rfl rfl (OpJ.or_ rfl rfl rfl ?_) ?_
  · first | (intro h; rw [h]; rfl) | (intro h; simp_all)
  refine AList.c 4 rfl rfl rfl (OpJ.assign rfl rfl) ?_
  refine AList.nil ?_
  refine AWp.ret ?_
  refine Fin.oneE rfl rfl ?_
  simp
theorem insertion_ok (c0 c1 : List PV) (e0 e1 e2 : TypeId) (l : List Int) (n : Nat) (hl : l.length = n) (hn : n ≤ 12) : ACalls Try.prog 69 [accV 3 n, .p (.int .i64 0), .p (.int .i64 (n : Int))] [.cells (c0.map .p) e0, .cells (c1.map .p) e1, .cells [.ptr 0 0] e2, accB ((l.flatMap i1).map .p) 3 n] fun v H' => H' = [.cells (c0.map .p) e0, .cells (c1.map .p) e1, .cells [.ptr 0 0] e2, accB (((sortI l).flatMap i1).map .p) 3 n] := by
  refine ACalls.start (N := 49) Try.func69 rfl rfl (Nat.le_of_ble_eq_true rfl) ?_
  refine AWp.seq ?_
  refine AWp.region ?_
  refine AList.c 8 rfl rfl rfl (OpJ.move rfl rfl) ?_
  refine AList.c 9 rfl rfl rfl (OpJ.add rfl rfl rfl (i64ok ?_)) ?_
  · decide
  refine AList.c 6 rfl rfl rfl (OpJ.assign rfl rfl) ?_
  refine AList.nil ?_
  refine AWp.block ?_
  refine AWp.loopHL [0, 1, 2] (fun g => [(6, .p (.int .i64 ((g.1 : Nat) : Int)))]) (fun g => [.cells (c0.map .p) e0, .cells (c1.map .p) e1, .cells [.ptr 0 0] e2, accB ((g.2.flatMap i1).map .p) 3 n]) (fun g => 1 ≤ g.1 ∧ g.2.length = n ∧ List.Perm g.2 l ∧ SrtTo g.2 g.1) (fun g => n - g.1) (1, l) ⟨Nat.le_refl _, hl, List.Perm.refl _, to_one l⟩ (To.sub (Sub.chk (Sub.cons rfl (Sub.nil)))) (fun g hg => ?_)
  obtain ⟨i, xs⟩ := g
  obtain ⟨hi1, hxl, hxp, hxs⟩ := hg
  dsimp only at hi1 hxl hxp hxs ⊢
  refine AWp.seq ?_
  refine AWp.seq ?_
  refine AWp.region ?_
  refine AList.c 10 rfl rfl rfl (OpJ.move rfl rfl) ?_
  refine AList.c 11 rfl rfl rfl (OpJ.move rfl rfl) ?_
  refine AList.c 12 rfl rfl rfl (OpJ.lss rfl rfl rfl) ?_
  refine AList.nil ?_
  refine AWp.cond _ rfl (fun hc0 => ?_) (fun hc0 => ?_)
  · skip
    have hin : i < n := by have h := of_decide_eq_true hc0; omega
    obtain ⟨m, rfl⟩ : ∃ m, n = m + 1 := ⟨n - 1, by omega⟩
    refine AWp.skip ?_
    refine AWp.seq ?_
    refine AWp.block ?_
    refine AWp.seq ?_
    refine AWp.region ?_
    refine AList.c 15 rfl rfl rfl (OpJ.move rfl rfl) ?_
    refine AList.c 7 rfl rfl rfl (OpJ.assign rfl rfl) ?_
    refine AList.nil ?_
    refine AWp.block ?_
    refine AWp.loopHL [0, 1, 2, 6, 10, 11, 12, 13, 14, 15] (fun g => [(7, .p (.int .i64 ((g.1 : Nat) : Int)))]) (fun g => [.cells (c0.map .p) e0, .cells (c1.map .p) e1, .cells [.ptr 0 0] e2, accB ((g.2.flatMap i1).map .p) 3 (m + 1)]) (fun g => g.1 ≤ i ∧ g.2.length = m + 1 ∧ List.Perm g.2 l ∧ SrtBut g.2 i g.1) (fun g => g.1) (i, xs) ⟨Nat.le_refl _, hxl, hxp, to_but (by omega) hxs⟩ (To.sub (Sub.chk (Sub.cons rfl (Sub.nil)))) (fun g hg => ?_)
    obtain ⟨j, ys⟩ := g
    obtain ⟨hji, hyl, hyp, hyb⟩ := hg
    dsimp only at hji hyl hyp hyb ⊢
    refine AWp.seq ?_
    refine AWp.seq ?_
    refine AWp.regionDraw 15 mixed (by kernel_rfl) (by decide) ?_
    refine AQuiet.cons 16 rfl rfl rfl (OpJ.move rfl rfl) ?_
    refine AQuiet.cons 17 rfl rfl rfl (OpJ.move rfl rfl) ?_
    refine AQuiet.cons 18 rfl rfl rfl (OpJ.gtr rfl rfl rfl) ?_
    refine AQuiet.cons 19 rfl rfl rfl (OpJ.move rfl rfl) ?_
    refine AQuiet.guard 20 19 rfl rfl rfl rfl rfl rfl rfl [(0, _)] (fun h => And.intro (.inl rfl) (trivial)) (fun h => (OpJ.move rfl rfl)) ?_
    refine AQuiet.guard 21 19 rfl rfl rfl rfl rfl rfl rfl [(7, _)] (fun h => And.intro (.inl rfl) (trivial)) (fun h => (OpJ.move rfl rfl)) ?_
    refine AQuiet.guard 22 19 rfl rfl rfl rfl rfl rfl rfl [(20, _), (21, _)] (fun h => And.intro (.inr ⟨_, rfl, h⟩) (And.intro (.inr ⟨_, rfl, h⟩) (trivial))) (fun h => (OpJ.indexRow rfl rfl rfl sl26 el26 (by omega))) ?_
    refine AQuiet.guard 23 19 rfl rfl rfl rfl rfl rfl rfl [(22, _)] (fun h => And.intro (.inr ⟨_, rfl, h⟩) (trivial)) (fun h => (OpJ.loadFlat (f := i1) (c := 1) (k := j) (j := 0) (xs := ys) rfl rfl ty3 rfl rfl (by omega) (fun _ => rfl) (by omega) (by decide) (show _ = PV.int .i64 (nt ys j) from by rw [nt_get j (by omega)]; rfl))) ?_
    refine AQuiet.guard 24 19 rfl rfl rfl rfl rfl rfl rfl [(0, _)] (fun h => And.intro (.inl rfl) (trivial)) (fun h => (OpJ.move rfl rfl)) ?_
    refine AQuiet.guard 25 19 rfl rfl rfl rfl rfl rfl rfl [(7, _)] (fun h => And.intro (.inl rfl) (trivial)) (fun h => (OpJ.move rfl rfl)) ?_
    refine AQuiet.guard 26 19 rfl rfl rfl rfl rfl rfl rfl [(25, _)] (fun h => And.intro (.inr ⟨_, rfl, h⟩) (trivial)) (fun h => (OpJ.sub_ (m := ((j - 1 : Nat) : Int)) rfl rfl rfl ((i64ok (by omega)).trans (by have h2 := of_decide_eq_true (eq_of_beq h); omega)))) ?_
    refine AQuiet.guard 27 19 rfl rfl rfl rfl rfl rfl rfl [(24, _), (26, _)] (fun h => And.intro (.inr ⟨_, rfl, h⟩) (And.intro (.inr ⟨_, rfl, h⟩) (trivial))) (fun h => (OpJ.indexRow rfl rfl rfl sl26 el26 (by omega))) ?_
    refine AQuiet.guard 28 19 rfl rfl rfl rfl rfl rfl rfl [(27, _)] (fun h => And.intro (.inr ⟨_, rfl, h⟩) (trivial)) (fun h => (OpJ.loadFlat (f := i1) (c := 1) (k := (j - 1)) (j := 0) (xs := ys) rfl rfl ty3 rfl rfl (by omega) (fun _ => rfl) (by omega) (by decide) (show _ = PV.int .i64 (nt ys (j - 1)) from by rw [nt_get (j - 1) (by omega)]; rfl))) ?_
    refine AQuiet.guard 29 19 rfl rfl rfl rfl rfl rfl rfl [(23, _), (28, _)] (fun h => And.intro (.inr ⟨_, rfl, h⟩) (And.intro (.inr ⟨_, rfl, h⟩) (trivial))) (fun h => (OpJ.callP (less_ok _ _) rfl rfl rfl rfl rf75)) ?_
    refine AQuiet.cons 30 rfl rfl rfl (OpJ.and_ rfl rfl rfl ?_) ?_
    · first | (intro h; rw [h]; rfl) | (intro h; simp_all)
    refine AQuiet.nil ?_
    refine AList.nil ?_
    refine AWp.cond _ rfl (fun hc1 => ?_) (fun hc1 => ?_)
    · skip
      have hcc : (decide ((j : Int) > 0) && decide (nt ys j < nt ys (j - 1))) = true := hc1
      rw [Bool.and_eq_true] at hcc
      have hj0 : 0 < j := by have := of_decide_eq_true hcc.1; omega
      have hlt : nt ys j < nt ys (j - 1) := of_decide_eq_true hcc.2
      refine AWp.skip ?_
      refine AWp.seq ?_
      refine AWp.block ?_
      refine AWp.regionDrawG 16 0 [3] [([], false), ([], false), ([], false), ([], false), ([], false), ([], false), ([], false), ([], false), ([], false), ([3], false), ([], false), ([], false), ([], false), ([3], false), ([], false), ([3], true)] mixed (by kernel_rfl) (by decide) (by kernel_rfl) rfl (by show [Blk.cells (renL _ (List.map V.p _)) _, Blk.cells (renL _ (List.map V.p _)) _, Blk.cells [V.ptr 0 0] _, Blk.row (renL _ (List.map V.p _)) _] = _; rw [renL_pure, renL_pure, renL_pure]; rfl) ?_
      refine AQG.cons 33 rfl rfl rfl (fun _ => (OpJ.move rfl rfl)) rfl ?_
      refine AQG.cons 34 rfl rfl rfl (fun _ => (OpJ.move rfl rfl)) rfl ?_
      refine AQG.cons 35 rfl rfl rfl (fun _ => (OpJ.move rfl rfl)) rfl ?_
      refine AQG.cons 36 rfl rfl rfl (fun _ => (OpJ.move rfl rfl)) rfl ?_
      refine AQG.cons 37 rfl rfl rfl (fun _ => (OpJ.sub_ (m := ((j - 1 : Nat) : Int)) rfl rfl rfl ((i64ok ?_).trans ?_))) rfl ?_
      · omega
      · omega
      refine AQG.cons 38 rfl rfl rfl (fun _ => (OpJ.move rfl rfl)) rfl ?_
      refine AQG.cons 39 rfl rfl rfl (fun _ => (OpJ.move rfl rfl)) rfl ?_
      refine AQG.cons 40 rfl rfl rfl (fun _ => (OpJ.sub_ (m := ((j - 1 : Nat) : Int)) rfl rfl rfl ((i64ok ?_).trans ?_))) rfl ?_
      · omega
      · omega
      refine AQG.cons 41 rfl rfl rfl (fun _ => (OpJ.indexRow rfl rfl rfl sl26 el26 (by omega))) rfl ?_
      refine AQG.cons 42 rfl rfl rfl (fun _ => (OpJ.loadFlat (f := i1) (c := 1) (k := (j - 1)) (j := 0) (xs := ys) rfl rfl ty3 rfl rfl (by omega) (fun _ => rfl) (by omega) (by decide) (show _ = PV.int .i64 (nt ys (j - 1)) from by rw [nt_get (j - 1) (by omega)]; rfl))) rfl ?_
      refine AQG.cons 43 rfl rfl rfl (fun _ => (OpJ.move rfl rfl)) rfl ?_
      refine AQG.cons 44 rfl rfl rfl (fun _ => (OpJ.move rfl rfl)) rfl ?_
      refine AQG.cons 45 rfl rfl rfl (fun _ => (OpJ.indexRow rfl rfl rfl sl26 el26 (by omega))) rfl ?_
      refine AQG.cons 46 rfl rfl rfl (fun _ => (OpJ.loadFlat (f := i1) (c := 1) (k := j) (j := 0) (xs := ys) rfl rfl ty3 rfl rfl (by omega) (fun _ => rfl) (by omega) (by decide) (show _ = PV.int .i64 (nt ys j) from by rw [nt_get j (by omega)]; rfl))) rfl ?_
      refine AQG.cons 47 rfl rfl rfl (fun _ => (OpJ.indexRow rfl rfl rfl sl26 el26 (by omega))) rfl ?_
      refine AQG.put (blk := .row (((ys.set j (nt ys (j - 1))).flatMap i1).map .p) 3) (v := .top) 3 rfl rfl rfl rfl (fun _ => (OpJ.storeRow (off := j * 1) (i := 3) (f := i1) (c := 1) (k := j) (j := 0) (xs := ys) (z := (nt ys (j - 1))) (ws := [_]) rfl rfl rfl rfl rfl ty3 rfl rfl rfl (by omega) (fun _ => rfl) (by omega) (Nat.le_refl _) rfl)) rfl (by show Blk.row (renL _ (List.map V.p _)) _ = _; rw [renL_pure]) ?_
      refine AQG.nil ?_
      refine AList.c 48 rfl rfl rfl (OpJ.indexRow rfl rfl rfl sl26 el26 (by omega)) ?_
      refine AList.c0 rfl rfl (OpJ.storeRow (f := i1) (c := 1) (k := (j - 1)) (j := 0) (xs := (ys.set j (nt ys (j - 1)))) (z := (nt ys j)) (ws := [_]) rfl rfl rfl rfl rfl ty3 rfl rfl rfl (by omega) (fun _ => rfl) (by rw [List.length_set]; omega) (Nat.le_refl _) rfl) ?_
      refine AList.nil ?_
      refine AWp.region ?_
      refine AList.c 31 rfl rfl rfl (OpJ.move rfl rfl) ?_
      refine AList.c 32 rfl rfl rfl (OpJ.sub_ (m := ((j - 1 : Nat) : Int)) rfl rfl rfl ((i64ok ?_).trans ?_)) ?_
      · omega
      · omega
      refine AList.c 7 rfl rfl rfl (OpJ.assign rfl rfl) ?_
      refine AList.nil ?_
      refine ⟨(j - 1, swp ys j), ?_, ?_, ?_⟩
      · exact ⟨by dsimp only; omega, by dsimp only; rw [swp_len]; exact hyl, (swp_perm (by omega)).trans hyp, swp_but (by omega) hj0 hji hyb hlt⟩
      · show j - 1 < j
        omega
      exact To.sub (Sub.cons rfl (by repeat (first | exact Sub.nil | refine Sub.cons rfl ?_)))
    · skip
      have hcc : (decide ((j : Int) > 0) && decide (nt ys j < nt ys (j - 1))) = false := hc1
      have hex : j = 0 ∨ nt ys (j - 1) ≤ nt ys j := by
        rw [Bool.and_eq_false_iff] at hcc
        rcases hcc with h | h
        · have := of_decide_eq_false h
          left
          omega
        · have := of_decide_eq_false h
          right
          omega
      refine AWp.exit ?_
      refine AWp.region ?_
      refine AList.c 13 rfl rfl rfl (OpJ.move rfl rfl) ?_
      refine AList.c 14 rfl rfl rfl (OpJ.add rfl rfl rfl (i64ok ?_)) ?_
      · omega
      refine AList.c 6 rfl rfl rfl (OpJ.assign rfl rfl) ?_
      refine AList.nil ?_
      refine ⟨(i + 1, ys), ?_, ?_, ?_⟩
      · exact ⟨by dsimp only; omega, hyl, hyp, but_to hji hyb hex⟩
      · show m + 1 - (i + 1) < m + 1 - i
        omega
      exact To.sub (Sub.cons rfl (by repeat (first | exact Sub.nil | refine Sub.cons rfl ?_)))
  · skip
    have hin : n ≤ i := by have h := of_decide_eq_false hc0; omega
    have hall := srt_all hxs (by omega) hxp
    refine AWp.exit ?_
    exact ⟨.inl rfl, _, resV.none_ rfl, by rw [hall]⟩
end Go.Proofs.Ytibgdkaipleajaa
end

section
set_option linter.unusedVariables false
set_option maxRecDepth 100000
set_option maxHeartbeats 4000000
set_option linter.unusedSimpArgs false
namespace Go.Proofs.Ytibgdkaipleajaa
open Go.AF
theorem len64_ok (n : Nat) (hn : n ≤ 4) : Pure Try.prog 79 [.int .u64 (n : Int)] (.int .i64 (0 + ((lenT n).toNat : Int))) := by
  have hu : (lenT n).toNat < 256 := UInt8.toNat_lt _
  refine Pure.start (N := 25) Try.func79 rfl rfl (Nat.le_of_ble_eq_true rfl) ?_
  refine AWp.seq ?_
  refine AWp.region ?_
  refine AList.c 2 rfl rfl rfl (OpJ.assign rfl rfl) ?_
  refine AList.nil ?_
  refine AWp.seq ?_
  refine AWp.seq ?_
  refine AWp.region ?_
  refine AList.c 3 rfl rfl rfl (OpJ.move rfl rfl) ?_
  refine AList.c 4 rfl rfl rfl (OpJ.geq rfl rfl rfl) ?_
  refine AList.nil ?_
  refine AWp.cond _ rfl (fun hc0 => ?_) (fun hc0 => ?_)
  · skip
    exfalso
    have h := of_decide_eq_true hc0; omega
  · skip
    refine AWp.skip ?_
    refine AWp.seq ?_
    refine AWp.seq ?_
    refine AWp.region ?_
    refine AList.c 7 rfl rfl rfl (OpJ.move rfl rfl) ?_
    refine AList.c 8 rfl rfl rfl (OpJ.geq rfl rfl rfl) ?_
    refine AList.nil ?_
    refine AWp.cond _ rfl (fun hc1 => ?_) (fun hc1 => ?_)
    · skip
      exfalso
      have h := of_decide_eq_true hc1; omega
    · skip
      refine AWp.skip ?_
      refine AWp.seq ?_
      refine AWp.seq ?_
      refine AWp.region ?_
      refine AList.c 13 rfl rfl rfl (OpJ.move rfl rfl) ?_
      refine AList.c 14 rfl rfl rfl (OpJ.geq rfl rfl rfl) ?_
      refine AList.nil ?_
      refine AWp.cond _ rfl (fun hc2 => ?_) (fun hc2 => ?_)
      · skip
        exfalso
        have h := of_decide_eq_true hc2; omega
      · skip
        refine AWp.skip ?_
        refine AWp.seq ?_
        refine AWp.region ?_
        refine AList.c 19 rfl rfl rfl (OpJ.move rfl rfl) ?_
        refine AList.c 20 rfl rfl rfl (OpJ.move rfl rfl) ?_
        refine AList.c 21 rfl rfl rfl (OpJ.convInt rfl rfl (by rw [un125]; rfl) un5 (u8ok ?_)) ?_
        · omega
        refine AList.c 22 rfl rfl rfl (OpJ.indexStr (c := lenT n) (n := (n : Int)) rfl rfl rfl un9 (by omega) (by rcases (show n = 0 ∨ n = 1 ∨ n = 2 ∨ n = 3 ∨ n = 4 by omega) with rfl | rfl | rfl | rfl | rfl <;> rfl)) ?_
        refine AList.c 23 rfl rfl rfl (OpJ.convInt rfl rfl (by rw [un5]; rfl) un3 (i64ok ?_)) ?_
        · omega
        refine AList.c 24 rfl rfl rfl (OpJ.add rfl rfl rfl (i64ok ?_)) ?_
        · omega
        refine AList.c 2 rfl rfl rfl (OpJ.assign rfl rfl) ?_
        refine AList.nil ?_
        refine AWp.ret ?_
        exact Fin.one rfl (rfl)
theorem len_ok (n : Nat) (hn : n ≤ 4) : Pure Try.prog 68 [.int .u64 (n : Int)] (.int .i64 (0 + ((lenT n).toNat : Int))) := by
  refine Pure.start (N := 8) Try.func68 rfl rfl (Nat.le_of_ble_eq_true rfl) ?_
  refine AWp.seq ?_
  refine AWp.region ?_
  refine AList.c 2 rfl rfl rfl (OpJ.assign rfl rfl) ?_
  refine AList.nil ?_
  refine AWp.seq ?_
  refine AWp.cond _ rfl (fun hc0 => ?_) (fun hc0 => ?_)
  · skip
    exfalso
    cases hc0
  · skip
    refine AWp.skip ?_
    refine AWp.seq ?_
    refine AWp.region ?_
    refine AList.c 6 rfl rfl rfl (OpJ.move rfl rfl) ?_
    refine AList.c 7 rfl rfl rfl (OpJ.callP (len64_ok n hn) rfl rfl rfl rfl rf79) ?_
    refine AList.c 2 rfl rfl rfl (OpJ.assign rfl rfl) ?_
    refine AList.nil ?_
    refine AWp.ret ?_
    exact Fin.one rfl (rfl)
theorem pdq_ok (c0 c1 : List PV) (e0 e1 e2 : TypeId) (l : List Int) (n : Nat) (hl : l.length = n) (hn : n ≤ 4) (lim : Int) : ACalls Try.prog 67 [accV 3 n, .p (.int .i64 0), .p (.int .i64 (n : Int)), .p (.int .i64 lim)] [.cells (c0.map .p) e0, .cells (c1.map .p) e1, .cells [.ptr 0 0] e2, accB ((l.flatMap i1).map .p) 3 n] fun v H' => H' = [.cells (c0.map .p) e0, .cells (c1.map .p) e1, .cells [.ptr 0 0] e2, accB (((sortI l).flatMap i1).map .p) 3 n] := by
  refine ACalls.start (N := 134) Try.func67 rfl rfl (Nat.le_of_ble_eq_true rfl) ?_
  refine AWp.seq ?_
  refine AWp.region ?_
  refine AList.c 8 rfl rfl rfl (OpJ.assign rfl rfl) ?_
  refine AList.nil ?_
  refine AWp.seq ?_
  refine AWp.region ?_
  refine AList.c 9 rfl rfl rfl (OpJ.assign rfl rfl) ?_
  refine AList.nil ?_
  refine AWp.block ?_
  refine AWp.unroll 1 ?_
  refine ARounds.next ?_
  refine AWp.block ?_
  refine AWp.seq ?_
  refine AWp.region ?_
  refine AList.c 19 rfl rfl rfl (OpJ.move rfl rfl) ?_
  refine AList.c 20 rfl rfl rfl (OpJ.move rfl rfl) ?_
  refine AList.c 21 rfl rfl rfl (OpJ.sub_ rfl rfl rfl (i64ok ?_)) ?_
  · omega
  refine AList.c 10 rfl rfl rfl (OpJ.assign rfl rfl) ?_
  refine AList.nil ?_
  refine AWp.seq ?_
  refine AWp.seq ?_
  refine AWp.region ?_
  refine AList.c 22 rfl rfl rfl (OpJ.move rfl rfl) ?_
  refine AList.c 23 rfl rfl rfl (OpJ.leq rfl rfl rfl) ?_
  refine AList.nil ?_
  refine AWp.cond _ rfl (fun hc0 => ?_) (fun hc0 => ?_)
  · skip
    refine AWp.seq ?_
    refine AWp.region ?_
    refine AList.c 24 rfl rfl rfl (OpJ.move rfl rfl) ?_
    refine AList.c 25 rfl rfl rfl (OpJ.move rfl rfl) ?_
    refine AList.c 26 rfl rfl rfl (OpJ.move rfl rfl) ?_
    refine AList.callX 27 (insertion_ok c0 c1 e0 e1 e2 l n hl (by omega)) rfl rfl rfl rfl rfl rfl rfl rf69 (fun v H2 hQ2 => ?_)
    subst hQ2
    refine AList.nil ?_
    refine AWp.ret ?_
    exact ⟨.inr rfl, _, resV.none_ rfl, rfl⟩
  · skip
    exfalso
    have h := of_decide_eq_false hc0
    omega
theorem sort_ok (c0 c1 : List PV) (e0 e1 e2 : TypeId) (l : List Int) (n : Nat) (hl : l.length = n) (hn : n ≤ 4) : ACalls Try.prog 65 [accV 3 n] [.cells (c0.map .p) e0, .cells (c1.map .p) e1, .cells [.ptr 0 0] e2, accB ((l.flatMap i1).map .p) 3 n] fun v H' => H' = [.cells (c0.map .p) e0, .cells (c1.map .p) e1, .cells [.ptr 0 0] e2, accB (((sortI l).flatMap i1).map .p) 3 n] := by
  refine ACalls.start (N := 11) Try.func65 rfl rfl (Nat.le_of_ble_eq_true rfl) ?_
  refine AWp.seq ?_
  refine AWp.region ?_
  refine AList.c 3 rfl rfl rfl (OpJ.move rfl rfl) ?_
  refine AList.c 4 rfl rfl rfl (OpJ.lenSlice rfl rfl sl26 (show alen (accV 3 n) = some n from by cases n <;> rfl)) ?_
  refine AList.c 2 rfl rfl rfl (OpJ.assign rfl rfl) ?_
  refine AList.nil ?_
  refine AWp.region ?_
  refine AList.c 5 rfl rfl rfl (OpJ.move rfl rfl) ?_
  refine AList.c 6 rfl rfl rfl (OpJ.move rfl rfl) ?_
  refine AList.c 7 rfl rfl rfl (OpJ.move rfl rfl) ?_
  refine AList.c 8 rfl rfl rfl (OpJ.convInt rfl rfl (by rw [un3]; rfl) un112 (u64ok ?_)) ?_
  · omega
  refine AList.c 9 rfl rfl rfl (OpJ.callP (len_ok n hn) rfl rfl rfl rfl rf68) ?_
  refine AList.callX 10 (pdq_ok c0 c1 e0 e1 e2 l n hl hn _) rfl rfl rfl rfl rfl rfl rfl rf67 (fun v H2 hQ2 => ?_)
  subst hQ2
  refine AList.nil ?_
  exact ⟨.inl rfl, _, resV.none_ rfl, rfl⟩
theorem appendSeq_ok (p : Pnt) (hp : Ok p) (S : Shp) (but hour : Int) (c1 : List PV) (e1 : TypeId) : ACalls Try.prog 66 [.p .nilSlice, (.func (.func 63) [] [.ptr 2 0, .p (.ip [.int .i64 but] 0), .p (.ip [.int .i64 hour] 0)])] [.cells ((shpL p S).map V.p) 66, .cells (c1.map .p) e1, .cells [.ptr 0 0] 61] fun v H' => v = accV 3 (hangL p S but hour).length ∧ H' = [.cells ((shpL p S).map V.p) 66, .cells (c1.map .p) e1, .cells [.ptr 0 0] 61, accB (((hangL p S but hour).flatMap i1).map .p) 3 (hangL p S but hour).length] := by
  have hn4 := hp.n
  have hll : (hangL p S but hour).length ≤ 4 := by have := hangF_len S but hour p.bs.length; show (hangF S but hour p.bs.length).length ≤ 4; omega
  refine ACalls.start (N := 13) Try.func66 rfl rfl (Nat.le_of_ble_eq_true rfl) ?_
  refine AWp.seq ?_
  refine AWp.region ?_
  refine AList.c 2 rfl rfl rfl (OpJ.boxOwn rfl rfl rfl) ?_
  refine AList.c 4 rfl rfl rfl (OpJ.assign rfl rfl) ?_
  refine AList.nil ?_
  refine AWp.seq ?_
  refine AWp.seq ?_
  refine AWp.region ?_
  refine AList.c 6 rfl rfl rfl (OpJ.move rfl rfl) ?_
  refine AList.nil ?_
  refine AWp.block ?_
  refine AWp.to To.pad ?_
  refine AWp.rangeFuncR 3 3 rfl (fun _ => rfl) rf63 (RrH p S) (hang_seq p hp S but hour) (Nat.le_refl 3) (Nat.le_refl 3) (Nat.le_of_ble_eq_true rfl) (fun _ h => by cases h) (fun x hx => by unfold hangX at hx; simp at hx; obtain ⟨j, _, rfl⟩ := hx; rfl) rfl (fun k h => h = [.cells ((shpL p S).map V.p) 66, .cells (c1.map .p) e1, .cells [.ptr 0 0] 61, .cells [accV 4 k] 26, accB ((((hangL p S but hour).take k).flatMap i1).map .p) 3 k]) (fun c h => False) (fun _ _ h => by subst h; exact ⟨rfl, fun _ => ⟨rfl, rfl⟩⟩) (fun _ _ h => h.elim) rfl ?_ ?_ ?_
  · skip
    intro lx tmps k h x hJ hx
    subst hJ
    have hk : k < (hangL p S but hour).length := by have := (List.getElem?_eq_some_iff.1 hx).1; rwa [hangX_len] at this
    obtain rfl : x = [.p (.int .i64 (hangL p S but hour)[k])] := by obtain ⟨q, hq, rfl⟩ := hangX_get hx; rw [List.getElem?_eq_getElem hk] at hq; rw [Option.some.inj hq]
    refine AWp.region ?_
    refine AList.c 5 rfl rfl rfl (OpJ.assign rfl rfl) ?_
    refine AList.nil ?_
    refine ⟨rfl, rfl, ?_⟩
    refine AWp.block ?_
    refine AWp.region ?_
    refine AList.c 8 rfl rfl rfl (OpJ.load (v := accV 4 k) rfl rfl ty26 rfl) ?_
    refine AList.c 9 rfl rfl rfl (OpJ.move rfl rfl) ?_
    refine AList.c 10 rfl rfl rfl (OpJ.buildImm rfl slz26 (by decide) rfl rfl rfl) ?_
    refine AList.c 11 rfl rfl rfl (OpJ.appendAcc rfl rfl rfl slz26 sl26 rfl ?_ rfl (by decide) rfl by3 (by decide) ?_) ?_
    · rw [List.length_map, flat_len (c := 1) (fun _ => rfl), List.length_take]; show min _ _ * 1 = _ * 1; omega
    · omega
    refine AList.c0 rfl rfl (OpJ.store rfl rfl rfl rfl rfl ty26 rfl rfl) ?_
    refine AList.nil ?_
    refine ⟨_, rfl, To.done [0, 1, 2, 3, 6, 5] rfl Sub.nil ?_⟩
    show [Blk.cells (renL _ (List.map V.p _)) _, Blk.cells (renL _ (List.map V.p _)) _, Blk.cells [V.ptr 0 0] _, Blk.cells [V.row 4 (k + 1)] _, Blk.row (renL _ (_ ++ _)) _, _] = _
    rw [renL_app, renL_pure, renL_pure, renL_pure, ← List.take_append_getElem hk, List.flatMap_append, List.map_append]
    rfl
  · skip
    intro h hJ
    subst hJ
    rw [hangX_len, List.take_length]
    refine AWp.seq ?_
    refine AWp.region ?_
    refine AList.c 12 rfl rfl rfl (OpJ.load (v := accV 4 (hangL p S but hour).length) rfl rfl ty26 rfl) ?_
    refine AList.c 4 rfl rfl rfl (OpJ.assign rfl rfl) ?_
    refine AList.nil ?_
    refine AWp.norm [0, 1, 2, 4] [(4, accV 3 (hangL p S but hour).length)] [.cells ((shpL p S).map V.p) 66, .cells (c1.map .p) e1, .cells [.ptr 0 0] 61, accB (((hangL p S but hour).flatMap i1).map .p) 3 (hangL p S but hour).length] rfl (Sub.cons (by rw [lk_renT]; show some (renV _ (accV 4 _)) = _; rw [accV_ren (σ := pl [0, 1, 2, 4]) (i := 4) (j := 3) rfl]) Sub.nil) (by show [Blk.cells (renL _ (List.map V.p _)) _, Blk.cells (renL _ (List.map V.p _)) _, Blk.cells [V.ptr 0 0] _, renB _ (accB (List.map V.p _) _ _)] = _; rw [renL_pure, renL_pure, accB_ren]) ?_
    refine AWp.ret ?_
    exact ⟨.inr rfl, _, resV.one rfl rfl, rfl, rfl⟩
  · skip
    intro c h hx
    exact hx.elim
theorem collect_ok (p : Pnt) (hp : Ok p) (S : Shp) (but hour : Int) (c1 : List PV) (e1 : TypeId) : ACalls Try.prog 64 [(.func (.func 63) [] [.ptr 2 0, .p (.ip [.int .i64 but] 0), .p (.ip [.int .i64 hour] 0)])] [.cells ((shpL p S).map V.p) 66, .cells (c1.map .p) e1, .cells [.ptr 0 0] 61] fun v H' => v = accV 3 (hangL p S but hour).length ∧ H' = [.cells ((shpL p S).map V.p) 66, .cells (c1.map .p) e1, .cells [.ptr 0 0] 61, accB (((hangL p S but hour).flatMap i1).map .p) 3 (hangL p S but hour).length] := by
  refine ACalls.start (N := 5) Try.func64 rfl rfl (Nat.le_of_ble_eq_true rfl) ?_
  refine AWp.seq ?_
  refine AWp.region ?_
  refine AList.c 2 rfl rfl rfl (OpJ.assign rfl rfl) ?_
  refine AList.nil ?_
  refine AWp.seq ?_
  refine AWp.region ?_
  refine AList.c 3 rfl rfl rfl (OpJ.move rfl rfl) ?_
  refine AList.callX 4 (appendSeq_ok p hp S but hour c1 e1) rfl rfl rfl rfl rfl rfl rfl rf66 (fun v H2 hQ2 => ?_)
  obtain ⟨rfl, rfl⟩ := hQ2
  refine AList.c 2 rfl rfl rfl (OpJ.assign rfl rfl) ?_
  refine AList.nil ?_
  refine AWp.ret ?_
  exact ⟨.inr rfl, _, resV.one rfl rfl, rfl, rfl⟩
theorem sorted_ok (p : Pnt) (hp : Ok p) (S : Shp) (but hour : Int) (c1 : List PV) (e1 : TypeId) : ACalls Try.prog 62 [(.func (.func 63) [] [.ptr 2 0, .p (.ip [.int .i64 but] 0), .p (.ip [.int .i64 hour] 0)])] [.cells ((shpL p S).map V.p) 66, .cells (c1.map .p) e1, .cells [.ptr 0 0] 61] fun v H' => v = .p (intsV (sortI (hangL p S but hour))) ∧ H' = [.cells ((shpL p S).map V.p) 66, .cells (c1.map .p) e1, .cells [.ptr 0 0] 61, .dead] := by
  have hn4 := hp.n
  have hll : (hangL p S but hour).length ≤ 4 := by have := hangF_len S but hour p.bs.length; show (hangF S but hour p.bs.length).length ≤ 4; omega
  refine ACalls.start (N := 9) Try.func62 rfl rfl (Nat.le_of_ble_eq_true rfl) ?_
  refine AWp.seq ?_
  refine AWp.region ?_
  refine AList.c 2 rfl rfl rfl (OpJ.assign rfl rfl) ?_
  refine AList.nil ?_
  refine AWp.seq ?_
  refine AWp.region ?_
  refine AList.c 4 rfl rfl rfl (OpJ.move rfl rfl) ?_
  refine AList.callX 5 (collect_ok p hp S but hour c1 e1) rfl rfl rfl rfl rfl rfl rfl rf64 (fun v H2 hQ2 => ?_)
  obtain ⟨rfl, rfl⟩ := hQ2
  refine AList.c 3 rfl rfl rfl (OpJ.assign rfl rfl) ?_
  refine AList.nil ?_
  refine AWp.seq ?_
  refine AWp.region ?_
  refine AList.c 6 rfl rfl rfl (OpJ.move rfl rfl) ?_
  refine AList.callX 7 (sort_ok (shpL p S) c1 66 e1 61 (hangL p S but hour) _ rfl hll) rfl rfl rfl rfl rfl rfl rfl rf65 (fun v H2 hQ2 => ?_)
  subst hQ2
  refine AList.nil ?_
  refine AWp.seq ?_
  refine AWp.region ?_
  refine AList.c 8 rfl rfl rfl (OpJ.move rfl rfl) ?_
  refine AList.c 2 rfl rfl rfl (OpJ.assign rfl rfl) ?_
  refine AList.nil ?_
  refine AWp.to (To.acc 2 3 (hangL p S but hour).length (xs := (sortI (hangL p S but hour)).flatMap i1) rfl rfl (fun h => by rw [List.eq_nil_of_length_eq_zero h]; rfl)) ?_
  refine AWp.ret ?_
  exact ⟨.inr rfl, _, resV.one rfl rfl, by unfold intsV; rw [sortI_len], rfl⟩
end Go.Proofs.Ytibgdkaipleajaa
end
