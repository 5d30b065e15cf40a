/-
  Small functions; what is valid.
  What is valid in the other text; the curve at a ratio in both.
  How black leads can be, in both texts.
  Leads that are looked at; Black and Has in both texts.
  Has in both texts; are two lists the same; is there far more.
-/
import Derived.Test.YtbnemnhmejmeeaaGreatDoorRqF
import Derived.Test.YtbnemnhmejmeeaaGreatDoorSqP
import Derived.Test.YtbnemnhmejmeeaaGreatDoorFaD
import Derived.Test.YtbnemnhmejmeeaaGreatDoorPm
section
set_option linter.unusedVariables false
set_option maxRecDepth 100000
set_option maxHeartbeats 4000000
set_option linter.unusedSimpArgs false
namespace Go.Proofs.YtbnemnhmejmeeaaGreatDoor.Sh
open Go.AF
theorem within_ok (n lo hi : Int) : Pure Tryz.prog 80 [.int .i64 n, .int .i64 lo, .int .i64 hi] (.bool (inB n lo hi)) := by
  refine Pure.start (N := 15) Tryz.func80 rfl rfl (Nat.le_of_ble_eq_true rfl) ?_
  refine AWp.seq ?_
  refine AWp.region ?_
  refine AList.c 6 rfl rfl rfl (OpJ.assign rfl rfl) ?_
  refine AList.nil ?_
  refine AWp.seq ?_
  refine AWp.region ?_
  refine AList.c 7 rfl rfl rfl (OpJ.move rfl rfl) ?_
  refine AList.c 8 rfl rfl rfl (OpJ.move rfl rfl) ?_
  refine AList.c 9 rfl rfl rfl (OpJ.leq rfl rfl rfl) ?_
  refine AList.c 10 rfl rfl rfl (OpJ.move rfl rfl) ?_
  refine AList.g 11 10 rfl rfl rfl rfl rfl rfl rfl [(0, _)] (fun h => And.intro (.inl rfl) (trivial)) (fun h => (OpJ.move rfl rfl)) ?_
  refine AList.g 12 10 rfl rfl rfl rfl rfl rfl rfl [(2, _)] (fun h => And.intro (.inl rfl) (trivial)) (fun h => (OpJ.move rfl rfl)) ?_
  refine AList.g 13 10 rfl rfl rfl rfl rfl rfl rfl [(11, _), (12, _)] (fun h => And.intro (.inr ⟨_, rfl, h⟩) (And.intro (.inr ⟨_, rfl, h⟩) (trivial))) (fun h => (OpJ.leq rfl rfl rfl)) ?_
  refine AList.c 14 rfl rfl rfl (OpJ.and_ rfl rfl rfl ?_) ?_
  · first | (intro h; rw [h]; rfl) | (intro h; simp_all)
  refine AList.c 6 rfl rfl rfl (OpJ.assign rfl rfl) ?_
  refine AList.nil ?_
  refine AWp.ret ?_
  exact Fin.one rfl (rfl)
theorem in_ok (n lo hi : Int) : Pure Tryz.prog 59 [.int .i64 n, .int .i64 lo, .int .i64 hi] (.bool (inB n lo hi)) := by
  refine Pure.start (N := 15) Tryz.func59 rfl rfl (Nat.le_of_ble_eq_true rfl) ?_
  refine AWp.seq ?_
  refine AWp.region ?_
  refine AList.c 6 rfl rfl rfl (OpJ.assign rfl rfl) ?_
  refine AList.nil ?_
  refine AWp.seq ?_
  refine AWp.region ?_
  refine AList.c 7 rfl rfl rfl (OpJ.move rfl rfl) ?_
  refine AList.c 8 rfl rfl rfl (OpJ.move rfl rfl) ?_
  refine AList.c 9 rfl rfl rfl (OpJ.leq rfl rfl rfl) ?_
  refine AList.c 10 rfl rfl rfl (OpJ.move rfl rfl) ?_
  refine AList.g 11 10 rfl rfl rfl rfl rfl rfl rfl [(0, _)] (fun h => And.intro (.inl rfl) (trivial)) (fun h => (OpJ.move rfl rfl)) ?_
  refine AList.g 12 10 rfl rfl rfl rfl rfl rfl rfl [(2, _)] (fun h => And.intro (.inl rfl) (trivial)) (fun h => (OpJ.move rfl rfl)) ?_
  refine AList.g 13 10 rfl rfl rfl rfl rfl rfl rfl [(11, _), (12, _)] (fun h => And.intro (.inr ⟨_, rfl, h⟩) (And.intro (.inr ⟨_, rfl, h⟩) (trivial))) (fun h => (OpJ.leq rfl rfl rfl)) ?_
  refine AList.c 14 rfl rfl rfl (OpJ.and_ rfl rfl rfl ?_) ?_
  · first | (intro h; rw [h]; rfl) | (intro h; simp_all)
  refine AList.c 6 rfl rfl rfl (OpJ.assign rfl rfl) ?_
  refine AList.nil ?_
  refine AWp.ret ?_
  exact Fin.one rfl (rfl)
theorem isSpan_ok (a b lo hi : Int) : Pure Tryz.prog 36 [.agg [.int .i64 a, .int .i64 b], .int .i64 lo, .int .i64 hi] (.bool (spB a b lo hi)) := by
  refine Pure.start (N := 24) Tryz.func36 rfl rfl (Nat.le_of_ble_eq_true rfl) ?_
  refine AWp.seq ?_
  refine AWp.region ?_
  refine AList.c 3 rfl rfl rfl (OpJ.boxImm rfl rfl rfl) ?_
  refine AList.c 6 rfl rfl rfl (OpJ.assign rfl rfl) ?_
  refine AList.nil ?_
  refine AWp.seq ?_
  refine AWp.region ?_
  refine AList.c 7 rfl rfl rfl (OpJ.move rfl rfl) ?_
  refine AList.c 8 rfl rfl rfl (OpJ.fieldAddr rfl rfl fd30_0 rfl) ?_
  refine AList.c 9 rfl rfl rfl (OpJ.load rfl rfl ty3 rfl) ?_
  refine AList.c 10 rfl rfl rfl (OpJ.leq rfl rfl rfl) ?_
  refine AList.c 11 rfl rfl rfl (OpJ.move rfl rfl) ?_
  refine AList.g 12 11 rfl rfl rfl rfl rfl rfl rfl [(3, _)] (fun h => And.intro (.inl rfl) (trivial)) (fun h => (OpJ.fieldAddr rfl rfl fd30_0 rfl)) ?_
  refine AList.g 13 11 rfl rfl rfl rfl rfl rfl rfl [(12, _)] (fun h => And.intro (.inr ⟨_, rfl, h⟩) (trivial)) (fun h => (OpJ.load rfl rfl ty3 rfl)) ?_
  refine AList.g 14 11 rfl rfl rfl rfl rfl rfl rfl [(3, _)] (fun h => And.intro (.inl rfl) (trivial)) (fun h => (OpJ.fieldAddr rfl rfl fd30_1 rfl)) ?_
  refine AList.g 15 11 rfl rfl rfl rfl rfl rfl rfl [(14, _)] (fun h => And.intro (.inr ⟨_, rfl, h⟩) (trivial)) (fun h => (OpJ.load rfl rfl ty3 rfl)) ?_
  refine AList.g 16 11 rfl rfl rfl rfl rfl rfl rfl [(13, _), (15, _)] (fun h => And.intro (.inr ⟨_, rfl, h⟩) (And.intro (.inr ⟨_, rfl, h⟩) (trivial))) (fun h => (OpJ.leq rfl rfl rfl)) ?_
  refine AList.c 17 rfl rfl rfl (OpJ.and_ rfl rfl rfl ?_) ?_
  · first | (intro h; rw [h]; rfl) | (intro h; simp_all)
  refine AList.c 18 rfl rfl rfl (OpJ.move rfl rfl) ?_
  refine AList.g 19 18 rfl rfl rfl rfl rfl rfl rfl [(3, _)] (fun h => And.intro (.inl rfl) (trivial)) (fun h => (OpJ.fieldAddr rfl rfl fd30_1 rfl)) ?_
  refine AList.g 20 18 rfl rfl rfl rfl rfl rfl rfl [(19, _)] (fun h => And.intro (.inr ⟨_, rfl, h⟩) (trivial)) (fun h => (OpJ.load rfl rfl ty3 rfl)) ?_
  refine AList.g 21 18 rfl rfl rfl rfl rfl rfl rfl [(2, _)] (fun h => And.intro (.inl rfl) (trivial)) (fun h => (OpJ.move rfl rfl)) ?_
  refine AList.g 22 18 rfl rfl rfl rfl rfl rfl rfl [(20, _), (21, _)] (fun h => And.intro (.inr ⟨_, rfl, h⟩) (And.intro (.inr ⟨_, rfl, h⟩) (trivial))) (fun h => (OpJ.leq rfl rfl rfl)) ?_
  refine AList.c 23 rfl rfl rfl (OpJ.and_ rfl rfl rfl ?_) ?_
  · first | (intro h; rw [h]; rfl) | (intro h; simp_all)
  refine AList.c 6 rfl rfl rfl (OpJ.assign rfl rfl) ?_
  refine AList.nil ?_
  refine AWp.ret ?_
  exact Fin.one rfl (rfl)
theorem rspan_ok (a b lo hi : Int) : Pure Tryz.prog 58 [.agg [.int .i64 a, .int .i64 b], .int .i64 lo, .int .i64 hi] (.bool (spB a b lo hi)) := by
  refine Pure.start (N := 24) Tryz.func58 rfl rfl (Nat.le_of_ble_eq_true rfl) ?_
  refine AWp.seq ?_
  refine AWp.region ?_
  refine AList.c 3 rfl rfl rfl (OpJ.boxImm rfl rfl rfl) ?_
  refine AList.c 6 rfl rfl rfl (OpJ.assign rfl rfl) ?_
  refine AList.nil ?_
  refine AWp.seq ?_
  refine AWp.region ?_
  refine AList.c 7 rfl rfl rfl (OpJ.move rfl rfl) ?_
  refine AList.c 8 rfl rfl rfl (OpJ.fieldAddr rfl rfl fd30_0 rfl) ?_
  refine AList.c 9 rfl rfl rfl (OpJ.load rfl rfl ty3 rfl) ?_
  refine AList.c 10 rfl rfl rfl (OpJ.leq rfl rfl rfl) ?_
  refine AList.c 11 rfl rfl rfl (OpJ.move rfl rfl) ?_
  refine AList.g 12 11 rfl rfl rfl rfl rfl rfl rfl [(3, _)] (fun h => And.intro (.inl rfl) (trivial)) (fun h => (OpJ.fieldAddr rfl rfl fd30_0 rfl)) ?_
  refine AList.g 13 11 rfl rfl rfl rfl rfl rfl rfl [(12, _)] (fun h => And.intro (.inr ⟨_, rfl, h⟩) (trivial)) (fun h => (OpJ.load rfl rfl ty3 rfl)) ?_
  refine AList.g 14 11 rfl rfl rfl rfl rfl rfl rfl [(3, _)] (fun h => And.intro (.inl rfl) (trivial)) (fun h => (OpJ.fieldAddr rfl rfl fd30_1 rfl)) ?_
  refine AList.g 15 11 rfl rfl rfl rfl rfl rfl rfl [(14, _)] (fun h => And.intro (.inr ⟨_, rfl, h⟩) (trivial)) (fun h => (OpJ.load rfl rfl ty3 rfl)) ?_
  refine AList.g 16 11 rfl rfl rfl rfl rfl rfl rfl [(13, _), (15, _)] (fun h => And.intro (.inr ⟨_, rfl, h⟩) (And.intro (.inr ⟨_, rfl, h⟩) (trivial))) (fun h => (OpJ.leq rfl rfl rfl)) ?_
  refine AList.c 17 rfl rfl rfl (OpJ.and_ rfl rfl rfl ?_) ?_
  · first | (intro h; rw [h]; rfl) | (intro h; simp_all)
  refine AList.c 18 rfl rfl rfl (OpJ.move rfl rfl) ?_
  refine AList.g 19 18 rfl rfl rfl rfl rfl rfl rfl [(3, _)] (fun h => And.intro (.inl rfl) (trivial)) (fun h => (OpJ.fieldAddr rfl rfl fd30_1 rfl)) ?_
  refine AList.g 20 18 rfl rfl rfl rfl rfl rfl rfl [(19, _)] (fun h => And.intro (.inr ⟨_, rfl, h⟩) (trivial)) (fun h => (OpJ.load rfl rfl ty3 rfl)) ?_
  refine AList.g 21 18 rfl rfl rfl rfl rfl rfl rfl [(2, _)] (fun h => And.intro (.inl rfl) (trivial)) (fun h => (OpJ.move rfl rfl)) ?_
  refine AList.g 22 18 rfl rfl rfl rfl rfl rfl rfl [(20, _), (21, _)] (fun h => And.intro (.inr ⟨_, rfl, h⟩) (And.intro (.inr ⟨_, rfl, h⟩) (trivial))) (fun h => (OpJ.leq rfl rfl rfl)) ?_
  refine AList.c 23 rfl rfl rfl (OpJ.and_ rfl rfl rfl ?_) ?_
  · first | (intro h; rw [h]; rfl) | (intro h; simp_all)
  refine AList.c 6 rfl rfl rfl (OpJ.assign rfl rfl) ?_
  refine AList.nil ?_
  refine AWp.ret ?_
  exact Fin.one rfl (rfl)
theorem indexFK_ok (xs : List Stk) (f : PV) (p : Stk → Bool) (hx : xs.length ≤ bigN) (hf : ∀ x ∈ xs, FPure Tryz.prog f [.agg x.cells] (.bool (p x))) : Pure Tryz.prog 98 [.is (xs.flatMap Stk.cells) xs.length, f] (.int .i64 (idxF p xs)) := by
  unfold bigN at hx
  refine Pure.start (N := 19) Tryz.func98 rfl rfl (Nat.le_of_ble_eq_true rfl) ?_
  refine AWp.seq ?_
  refine AWp.region ?_
  refine AList.c 4 rfl rfl rfl (OpJ.assign rfl rfl) ?_
  refine AList.nil ?_
  refine AWp.seq ?_
  refine AWp.seq ?_
  refine AWp.region ?_
  refine AList.c 6 rfl rfl rfl (OpJ.move rfl rfl) ?_
  refine AList.c 7 rfl rfl rfl (OpJ.lenSlice rfl rfl sl31 rfl) ?_
  refine AList.c 8 rfl rfl rfl (OpJ.move rfl rfl) ?_
  refine AList.nil ?_
  refine AWp.block ?_
  refine AWp.loopK [4, 5, 8, 9, 10, 11, 12, 13, 14, 15, 16, 17, 18] (fun g => [(8, .p (.int .i64 ((g : Nat) : Int)))]) (fun g => g ≤ xs.length ∧ ∀ j (hj : j < g) (h : g ≤ xs.length), p (xs[j]'(by omega)) = false) (fun g => xs.length - g) 0 ⟨Nat.zero_le _, fun j hj => absurd hj (by omega)⟩ (Sub.cons rfl (Sub.nil)) (fun i hg => ?_)
  obtain ⟨hg1, hg2⟩ := hg
  refine AWp.seq ?_
  refine AWp.region ?_
  refine AList.c 9 rfl rfl rfl (OpJ.lss rfl rfl rfl) ?_
  refine AList.nil ?_
  refine AWp.seq ?_
  refine AWp.cond _ rfl (fun hc0 => ?_) (fun hc0 => ?_)
  · skip
    refine AWp.skip ?_
    refine AWp.seq ?_
    refine AWp.block ?_
    refine AWp.seq ?_
    refine AWp.region ?_
    refine AList.c 10 rfl rfl rfl (OpJ.move rfl rfl) ?_
    refine AList.c 5 rfl rfl rfl (OpJ.assign rfl rfl) ?_
    refine AList.nil ?_
    refine AWp.seq ?_
    refine AWp.region ?_
    refine AList.c 11 rfl rfl rfl (OpJ.move rfl rfl) ?_
    refine AList.c 12 rfl rfl rfl (OpJ.move rfl rfl) ?_
    refine AList.c 13 rfl rfl rfl (OpJ.move rfl rfl) ?_
    refine AList.c 14 rfl rfl rfl (OpJ.indexEl rfl rfl rfl sl31 el31 rfl (fun _ => rfl) (by decide) ?_) ?_
    · simp at hc0; omega
    refine AList.c 15 rfl rfl rfl (OpJ.load rfl rfl ty82 rfl) ?_
    refine AList.c 16 rfl rfl rfl (OpJ.callF (hf _ (List.getElem_mem _)) rfl rfl rfl) ?_
    refine AList.nil ?_
    refine AWp.cond _ rfl (fun hc1 => ?_) (fun hc1 => ?_)
    · skip
      refine AWp.seq ?_
      refine AWp.region ?_
      refine AList.c 17 rfl rfl rfl (OpJ.move rfl rfl) ?_
      refine AList.c 4 rfl rfl rfl (OpJ.assign rfl rfl) ?_
      refine AList.nil ?_
      refine AWp.ret ?_
      refine Fin.oneE rfl rfl ?_
      rw [idxF_at p xs i (by simp at hc0; omega) (fun j hj => hg2 j hj hg1) hc1]
    · skip
      refine AWp.skip ?_
      refine AWp.region ?_
      refine AList.c 18 rfl rfl rfl (OpJ.add rfl rfl rfl (i64ok ?_)) ?_
      · simp at hc0; omega
      refine AList.c 8 rfl rfl rfl (OpJ.move rfl rfl) ?_
      refine AList.nil ?_
      refine ⟨i + 1, ?_, ?_, ?_⟩
      · refine ⟨by simp at hc0; omega, fun j hj h => ?_⟩
        rcases Nat.lt_succ_iff_lt_or_eq.1 hj with h1 | rfl
        · exact hg2 j h1 hg1
        · exact hc1
      · simp at hc0; omega
      exact To.done [] rfl (by repeat (first | exact Sub.nil | refine Sub.cons rfl ?_)) rfl
  · skip
    refine AWp.exit ?_
    refine AWp.seq ?_
    refine AWp.region ?_
    refine AList.c 4 rfl rfl rfl (OpJ.assign rfl rfl) ?_
    refine AList.nil ?_
    refine AWp.ret ?_
    refine Fin.oneE rfl rfl ?_
    rw [idxF_none p xs (fun j hj => hg2 j (by simp at hc0; omega) hg1)]
theorem indexFS_ok (xs : List Shd) (f : PV) (p : Shd → Bool) (hx : xs.length ≤ bigN) (hf : ∀ x ∈ xs, FPure Tryz.prog f [.agg x.cells] (.bool (p x))) : Pure Tryz.prog 81 [.is (xs.flatMap Shd.cells) xs.length, f] (.int .i64 (idxF p xs)) := by
  unfold bigN at hx
  refine Pure.start (N := 19) Tryz.func81 rfl rfl (Nat.le_of_ble_eq_true rfl) ?_
  refine AWp.seq ?_
  refine AWp.region ?_
  refine AList.c 4 rfl rfl rfl (OpJ.assign rfl rfl) ?_
  refine AList.nil ?_
  refine AWp.seq ?_
  refine AWp.seq ?_
  refine AWp.region ?_
  refine AList.c 6 rfl rfl rfl (OpJ.move rfl rfl) ?_
  refine AList.c 7 rfl rfl rfl (OpJ.lenSlice rfl rfl sl24 rfl) ?_
  refine AList.c 8 rfl rfl rfl (OpJ.move rfl rfl) ?_
  refine AList.nil ?_
  refine AWp.block ?_
  refine AWp.loopK [4, 5, 8, 9, 10, 11, 12, 13, 14, 15, 16, 17, 18] (fun g => [(8, .p (.int .i64 ((g : Nat) : Int)))]) (fun g => g ≤ xs.length ∧ ∀ j (hj : j < g) (h : g ≤ xs.length), p (xs[j]'(by omega)) = false) (fun g => xs.length - g) 0 ⟨Nat.zero_le _, fun j hj => absurd hj (by omega)⟩ (Sub.cons rfl (Sub.nil)) (fun i hg => ?_)
  obtain ⟨hg1, hg2⟩ := hg
  refine AWp.seq ?_
  refine AWp.region ?_
  refine AList.c 9 rfl rfl rfl (OpJ.lss rfl rfl rfl) ?_
  refine AList.nil ?_
  refine AWp.seq ?_
  refine AWp.cond _ rfl (fun hc0 => ?_) (fun hc0 => ?_)
  · skip
    refine AWp.skip ?_
    refine AWp.seq ?_
    refine AWp.block ?_
    refine AWp.seq ?_
    refine AWp.region ?_
    refine AList.c 10 rfl rfl rfl (OpJ.move rfl rfl) ?_
    refine AList.c 5 rfl rfl rfl (OpJ.assign rfl rfl) ?_
    refine AList.nil ?_
    refine AWp.seq ?_
    refine AWp.region ?_
    refine AList.c 11 rfl rfl rfl (OpJ.move rfl rfl) ?_
    refine AList.c 12 rfl rfl rfl (OpJ.move rfl rfl) ?_
    refine AList.c 13 rfl rfl rfl (OpJ.move rfl rfl) ?_
    refine AList.c 14 rfl rfl rfl (OpJ.indexEl rfl rfl rfl sl24 el24 rfl (fun _ => rfl) (by decide) ?_) ?_
    · simp at hc0; omega
    refine AList.c 15 rfl rfl rfl (OpJ.load rfl rfl ty97 rfl) ?_
    refine AList.c 16 rfl rfl rfl (OpJ.callF (hf _ (List.getElem_mem _)) rfl rfl rfl) ?_
    refine AList.nil ?_
    refine AWp.cond _ rfl (fun hc1 => ?_) (fun hc1 => ?_)
    · skip
      refine AWp.seq ?_
      refine AWp.region ?_
      refine AList.c 17 rfl rfl rfl (OpJ.move rfl rfl) ?_
      refine AList.c 4 rfl rfl rfl (OpJ.assign rfl rfl) ?_
      refine AList.nil ?_
      refine AWp.ret ?_
      refine Fin.oneE rfl rfl ?_
      rw [idxF_at p xs i (by simp at hc0; omega) (fun j hj => hg2 j hj hg1) hc1]
    · skip
      refine AWp.skip ?_
      refine AWp.region ?_
      refine AList.c 18 rfl rfl rfl (OpJ.add rfl rfl rfl (i64ok ?_)) ?_
      · simp at hc0; omega
      refine AList.c 8 rfl rfl rfl (OpJ.move rfl rfl) ?_
      refine AList.nil ?_
      refine ⟨i + 1, ?_, ?_, ?_⟩
      · refine ⟨by simp at hc0; omega, fun j hj h => ?_⟩
        rcases Nat.lt_succ_iff_lt_or_eq.1 hj with h1 | rfl
        · exact hg2 j h1 hg1
        · exact hc1
      · simp at hc0; omega
      exact To.done [] rfl (by repeat (first | exact Sub.nil | refine Sub.cons rfl ?_)) rfl
  · skip
    refine AWp.exit ?_
    refine AWp.seq ?_
    refine AWp.region ?_
    refine AList.c 4 rfl rfl rfl (OpJ.assign rfl rfl) ?_
    refine AList.nil ?_
    refine AWp.ret ?_
    refine Fin.oneE rfl rfl ?_
    rw [idxF_none p xs (fun j hj => hg2 j (by simp at hc0; omega) hg1)]
theorem indexFL_ok (xs : List Lds) (f : PV) (p : Lds → Bool) (hx : xs.length ≤ bigN) (hf : ∀ x ∈ xs, FPure Tryz.prog f [.agg x.cells] (.bool (p x))) : Pure Tryz.prog 106 [.is (xs.flatMap Lds.cells) xs.length, f] (.int .i64 (idxF p xs)) := by
  unfold bigN at hx
  refine Pure.start (N := 19) Tryz.func106 rfl rfl (Nat.le_of_ble_eq_true rfl) ?_
  refine AWp.seq ?_
  refine AWp.region ?_
  refine AList.c 4 rfl rfl rfl (OpJ.assign rfl rfl) ?_
  refine AList.nil ?_
  refine AWp.seq ?_
  refine AWp.seq ?_
  refine AWp.region ?_
  refine AList.c 6 rfl rfl rfl (OpJ.move rfl rfl) ?_
  refine AList.c 7 rfl rfl rfl (OpJ.lenSlice rfl rfl sl23 rfl) ?_
  refine AList.c 8 rfl rfl rfl (OpJ.move rfl rfl) ?_
  refine AList.nil ?_
  refine AWp.block ?_
  refine AWp.loopK [4, 5, 8, 9, 10, 11, 12, 13, 14, 15, 16, 17, 18] (fun g => [(8, .p (.int .i64 ((g : Nat) : Int)))]) (fun g => g ≤ xs.length ∧ ∀ j (hj : j < g) (h : g ≤ xs.length), p (xs[j]'(by omega)) = false) (fun g => xs.length - g) 0 ⟨Nat.zero_le _, fun j hj => absurd hj (by omega)⟩ (Sub.cons rfl (Sub.nil)) (fun i hg => ?_)
  obtain ⟨hg1, hg2⟩ := hg
  refine AWp.seq ?_
  refine AWp.region ?_
  refine AList.c 9 rfl rfl rfl (OpJ.lss rfl rfl rfl) ?_
  refine AList.nil ?_
  refine AWp.seq ?_
  refine AWp.cond _ rfl (fun hc0 => ?_) (fun hc0 => ?_)
  · skip
    refine AWp.skip ?_
    refine AWp.seq ?_
    refine AWp.block ?_
    refine AWp.seq ?_
    refine AWp.region ?_
    refine AList.c 10 rfl rfl rfl (OpJ.move rfl rfl) ?_
    refine AList.c 5 rfl rfl rfl (OpJ.assign rfl rfl) ?_
    refine AList.nil ?_
    refine AWp.seq ?_
    refine AWp.region ?_
    refine AList.c 11 rfl rfl rfl (OpJ.move rfl rfl) ?_
    refine AList.c 12 rfl rfl rfl (OpJ.move rfl rfl) ?_
    refine AList.c 13 rfl rfl rfl (OpJ.move rfl rfl) ?_
    refine AList.c 14 rfl rfl rfl (OpJ.indexEl rfl rfl rfl sl23 el23 rfl (fun _ => rfl) (by decide) ?_) ?_
    · simp at hc0; omega
    refine AList.c 15 rfl rfl rfl (OpJ.load rfl rfl ty33 rfl) ?_
    refine AList.c 16 rfl rfl rfl (OpJ.callF (hf _ (List.getElem_mem _)) rfl rfl rfl) ?_
    refine AList.nil ?_
    refine AWp.cond _ rfl (fun hc1 => ?_) (fun hc1 => ?_)
    · skip
      refine AWp.seq ?_
      refine AWp.region ?_
      refine AList.c 17 rfl rfl rfl (OpJ.move rfl rfl) ?_
      refine AList.c 4 rfl rfl rfl (OpJ.assign rfl rfl) ?_
      refine AList.nil ?_
      refine AWp.ret ?_
      refine Fin.oneE rfl rfl ?_
      rw [idxF_at p xs i (by simp at hc0; omega) (fun j hj => hg2 j hj hg1) hc1]
    · skip
      refine AWp.skip ?_
      refine AWp.region ?_
      refine AList.c 18 rfl rfl rfl (OpJ.add rfl rfl rfl (i64ok ?_)) ?_
      · simp at hc0; omega
      refine AList.c 8 rfl rfl rfl (OpJ.move rfl rfl) ?_
      refine AList.nil ?_
      refine ⟨i + 1, ?_, ?_, ?_⟩
      · refine ⟨by simp at hc0; omega, fun j hj h => ?_⟩
        rcases Nat.lt_succ_iff_lt_or_eq.1 hj with h1 | rfl
        · exact hg2 j h1 hg1
        · exact hc1
      · simp at hc0; omega
      exact To.done [] rfl (by repeat (first | exact Sub.nil | refine Sub.cons rfl ?_)) rfl
  · skip
    refine AWp.exit ?_
    refine AWp.seq ?_
    refine AWp.region ?_
    refine AList.c 4 rfl rfl rfl (OpJ.assign rfl rfl) ?_
    refine AList.nil ?_
    refine AWp.ret ?_
    refine Fin.oneE rfl rfl ?_
    rw [idxF_none p xs (fun j hj => hg2 j (by simp at hc0; omega) hg1)]
theorem containsFK_ok (xs : List Stk) (f : PV) (p : Stk → Bool) (hx : xs.length ≤ bigN) (hf : ∀ x ∈ xs, FPure Tryz.prog f [.agg x.cells] (.bool (p x))) : Pure Tryz.prog 67 [.is (xs.flatMap Stk.cells) xs.length, f] (.bool (xs.any p)) := by
  refine Pure.start (N := 9) Tryz.func67 rfl rfl (Nat.le_of_ble_eq_true rfl) ?_
  refine AWp.seq ?_
  refine AWp.region ?_
  refine AList.c 4 rfl rfl rfl (OpJ.assign rfl rfl) ?_
  refine AList.nil ?_
  refine AWp.seq ?_
  refine AWp.region ?_
  refine AList.c 5 rfl rfl rfl (OpJ.move rfl rfl) ?_
  refine AList.c 6 rfl rfl rfl (OpJ.move rfl rfl) ?_
  refine AList.c 7 rfl rfl rfl (OpJ.callP (indexFK_ok _ _ p ?_ ?_) rfl rfl rfl rfl rf98) ?_
  · exact hx
  · exact hf
  refine AList.c 8 rfl rfl rfl (OpJ.geq rfl rfl rfl) ?_
  refine AList.c 4 rfl rfl rfl (OpJ.assign rfl rfl) ?_
  refine AList.nil ?_
  refine AWp.ret ?_
  refine Fin.oneE rfl rfl ?_
  rw [idxF_any]
theorem containsFS_ok (xs : List Shd) (f : PV) (p : Shd → Bool) (hx : xs.length ≤ bigN) (hf : ∀ x ∈ xs, FPure Tryz.prog f [.agg x.cells] (.bool (p x))) : Pure Tryz.prog 38 [.is (xs.flatMap Shd.cells) xs.length, f] (.bool (xs.any p)) := by
  refine Pure.start (N := 9) Tryz.func38 rfl rfl (Nat.le_of_ble_eq_true rfl) ?_
  refine AWp.seq ?_
  refine AWp.region ?_
  refine AList.c 4 rfl rfl rfl (OpJ.assign rfl rfl) ?_
  refine AList.nil ?_
  refine AWp.seq ?_
  refine AWp.region ?_
  refine AList.c 5 rfl rfl rfl (OpJ.move rfl rfl) ?_
  refine AList.c 6 rfl rfl rfl (OpJ.move rfl rfl) ?_
  refine AList.c 7 rfl rfl rfl (OpJ.callP (indexFS_ok _ _ p ?_ ?_) rfl rfl rfl rfl rf81) ?_
  · exact hx
  · exact hf
  refine AList.c 8 rfl rfl rfl (OpJ.geq rfl rfl rfl) ?_
  refine AList.c 4 rfl rfl rfl (OpJ.assign rfl rfl) ?_
  refine AList.nil ?_
  refine AWp.ret ?_
  refine Fin.oneE rfl rfl ?_
  rw [idxF_any]
theorem containsFL_ok (xs : List Lds) (f : PV) (p : Lds → Bool) (hx : xs.length ≤ bigN) (hf : ∀ x ∈ xs, FPure Tryz.prog f [.agg x.cells] (.bool (p x))) : Pure Tryz.prog 77 [.is (xs.flatMap Lds.cells) xs.length, f] (.bool (xs.any p)) := by
  refine Pure.start (N := 9) Tryz.func77 rfl rfl (Nat.le_of_ble_eq_true rfl) ?_
  refine AWp.seq ?_
  refine AWp.region ?_
  refine AList.c 4 rfl rfl rfl (OpJ.assign rfl rfl) ?_
  refine AList.nil ?_
  refine AWp.seq ?_
  refine AWp.region ?_
  refine AList.c 5 rfl rfl rfl (OpJ.move rfl rfl) ?_
  refine AList.c 6 rfl rfl rfl (OpJ.move rfl rfl) ?_
  refine AList.c 7 rfl rfl rfl (OpJ.callP (indexFL_ok _ _ p ?_ ?_) rfl rfl rfl rfl rf106) ?_
  · exact hx
  · exact hf
  refine AList.c 8 rfl rfl rfl (OpJ.geq rfl rfl rfl) ?_
  refine AList.c 4 rfl rfl rfl (OpJ.assign rfl rfl) ?_
  refine AList.nil ?_
  refine AWp.ret ?_
  refine Fin.oneE rfl rfl ?_
  rw [idxF_any]
theorem isLeads1_ok (x : Stk) : Pure Tryz.prog 129 [.agg x.cells] (.bool (!stkB x)) := by
  refine Pure.start (N := 13) Tryz.func129 rfl rfl (Nat.le_of_ble_eq_true rfl) ?_
  refine AWp.seq ?_
  refine AWp.region ?_
  refine AList.c 1 rfl rfl rfl (OpJ.boxImm rfl rfl rfl) ?_
  refine AList.c 2 rfl rfl rfl (OpJ.assign rfl rfl) ?_
  refine AList.nil ?_
  refine AWp.seq ?_
  refine AWp.region ?_
  refine AList.c 3 rfl rfl rfl (OpJ.fieldAddr rfl rfl fd82_0 rfl) ?_
  refine AList.c 4 rfl rfl rfl (OpJ.load rfl rfl ty30 rfl) ?_
  refine AList.c 5 rfl rfl rfl (OpJ.callP (isSpan_ok _ _ _ _) rfl rfl rfl rfl rf36) ?_
  refine AList.c 6 rfl rfl rfl (OpJ.not_ rfl rfl) ?_
  refine AList.c 7 rfl rfl rfl (OpJ.move rfl rfl) ?_
  refine AList.g 8 7 rfl rfl rfl rfl rfl rfl rfl [(1, _)] (fun h => And.intro (.inl rfl) (trivial)) (fun h => (OpJ.fieldAddr rfl rfl fd82_1 rfl)) ?_
  refine AList.g 9 7 rfl rfl rfl rfl rfl rfl rfl [(8, _)] (fun h => And.intro (.inr ⟨_, rfl, h⟩) (trivial)) (fun h => (OpJ.load rfl rfl ty30 rfl)) ?_
  refine AList.g 10 7 rfl rfl rfl rfl rfl rfl rfl [(9, _)] (fun h => And.intro (.inr ⟨_, rfl, h⟩) (trivial)) (fun h => (OpJ.callP (isSpan_ok _ _ _ _) rfl rfl rfl rfl rf36)) ?_
  refine AList.g 11 7 rfl rfl rfl rfl rfl rfl rfl [(10, _)] (fun h => And.intro (.inr ⟨_, rfl, h⟩) (trivial)) (fun h => (OpJ.not_ rfl rfl)) ?_
  refine AList.c 12 rfl rfl rfl (OpJ.or_ rfl rfl rfl ?_) ?_
  · first | (intro h; rw [h]; rfl) | (intro h; simp_all)
  refine AList.c 2 rfl rfl rfl (OpJ.assign rfl rfl) ?_
  refine AList.nil ?_
  refine AWp.ret ?_
  refine Fin.oneE rfl rfl ?_
  unfold stkB; rw [Bool.not_and]
theorem has1_ok (x : Shd) : Pure Tryz.prog 35 [.agg x.cells] (.bool (!shdB x)) := by
  refine Pure.start (N := 19) Tryz.func35 rfl rfl (Nat.le_of_ble_eq_true rfl) ?_
  refine AWp.seq ?_
  refine AWp.region ?_
  refine AList.c 1 rfl rfl rfl (OpJ.boxImm rfl rfl rfl) ?_
  refine AList.c 2 rfl rfl rfl (OpJ.assign rfl rfl) ?_
  refine AList.nil ?_
  refine AWp.seq ?_
  refine AWp.region ?_
  refine AList.c 3 rfl rfl rfl (OpJ.fieldAddr rfl rfl fd97_0 rfl) ?_
  refine AList.c 4 rfl rfl rfl (OpJ.load rfl rfl ty30 rfl) ?_
  refine AList.c 5 rfl rfl rfl (OpJ.callP (isSpan_ok _ _ _ _) rfl rfl rfl rfl rf36) ?_
  refine AList.c 6 rfl rfl rfl (OpJ.not_ rfl rfl) ?_
  refine AList.c 7 rfl rfl rfl (OpJ.move rfl rfl) ?_
  refine AList.g 8 7 rfl rfl rfl rfl rfl rfl rfl [(1, _)] (fun h => And.intro (.inl rfl) (trivial)) (fun h => (OpJ.fieldAddr rfl rfl fd97_1 rfl)) ?_
  refine AList.g 9 7 rfl rfl rfl rfl rfl rfl rfl [(8, _)] (fun h => And.intro (.inr ⟨_, rfl, h⟩) (trivial)) (fun h => (OpJ.load rfl rfl ty30 rfl)) ?_
  refine AList.g 10 7 rfl rfl rfl rfl rfl rfl rfl [(9, _)] (fun h => And.intro (.inr ⟨_, rfl, h⟩) (trivial)) (fun h => (OpJ.callP (isSpan_ok _ _ _ _) rfl rfl rfl rfl rf36)) ?_
  refine AList.g 11 7 rfl rfl rfl rfl rfl rfl rfl [(10, _)] (fun h => And.intro (.inr ⟨_, rfl, h⟩) (trivial)) (fun h => (OpJ.not_ rfl rfl)) ?_
  refine AList.c 12 rfl rfl rfl (OpJ.or_ rfl rfl rfl ?_) ?_
  · first | (intro h; rw [h]; rfl) | (intro h; simp_all)
  refine AList.c 13 rfl rfl rfl (OpJ.move rfl rfl) ?_
  refine AList.g 14 13 rfl rfl rfl rfl rfl rfl rfl [(1, _)] (fun h => And.intro (.inl rfl) (trivial)) (fun h => (OpJ.fieldAddr rfl rfl fd97_2 rfl)) ?_
  refine AList.g 15 13 rfl rfl rfl rfl rfl rfl rfl [(14, _)] (fun h => And.intro (.inr ⟨_, rfl, h⟩) (trivial)) (fun h => (OpJ.load rfl rfl ty30 rfl)) ?_
  refine AList.g 16 13 rfl rfl rfl rfl rfl rfl rfl [(15, _)] (fun h => And.intro (.inr ⟨_, rfl, h⟩) (trivial)) (fun h => (OpJ.callP (isSpan_ok _ _ _ _) rfl rfl rfl rfl rf36)) ?_
  refine AList.g 17 13 rfl rfl rfl rfl rfl rfl rfl [(16, _)] (fun h => And.intro (.inr ⟨_, rfl, h⟩) (trivial)) (fun h => (OpJ.not_ rfl rfl)) ?_
  refine AList.c 18 rfl rfl rfl (OpJ.or_ rfl rfl rfl ?_) ?_
  · first | (intro h; rw [h]; rfl) | (intro h; simp_all)
  refine AList.c 2 rfl rfl rfl (OpJ.assign rfl rfl) ?_
  refine AList.nil ?_
  refine AWp.ret ?_
  refine Fin.oneE rfl rfl ?_
  unfold shdB; rw [Bool.not_and, Bool.not_and]
theorem isLeads_ok (l : Lds) (hb : l.st.length ≤ bigN) : Pure Tryz.prog 107 [ldV l] (.bool (ldB l)) := by
  refine Pure.start (N := 49) Tryz.func107 rfl rfl (Nat.le_of_ble_eq_true rfl) ?_
  refine AWp.seq ?_
  refine AWp.region ?_
  refine AList.c 1 rfl rfl rfl (OpJ.boxImm rfl rfl rfl) ?_
  refine AList.c 2 rfl rfl rfl (OpJ.assign rfl rfl) ?_
  refine AList.nil ?_
  refine AWp.seq ?_
  refine AWp.region ?_
  refine AList.c 3 rfl rfl rfl (OpJ.assign rfl rfl) ?_
  refine AList.nil ?_
  refine AWp.seq ?_
  refine AWp.region ?_
  refine AList.c 6 rfl rfl rfl (OpJ.fieldAddr rfl rfl fd33_0 rfl) ?_
  refine AList.c 7 rfl rfl rfl (OpJ.load rfl rfl ty30 rfl) ?_
  refine AList.c 8 rfl rfl rfl (OpJ.callP (isSpan_ok _ _ _ _) rfl rfl rfl rfl rf36) ?_
  refine AList.c 9 rfl rfl rfl (OpJ.move rfl rfl) ?_
  refine AList.g 10 9 rfl rfl rfl rfl rfl rfl rfl [(1, _)] (fun h => And.intro (.inl rfl) (trivial)) (fun h => (OpJ.fieldAddr rfl rfl fd33_1 rfl)) ?_
  refine AList.g 11 9 rfl rfl rfl rfl rfl rfl rfl [(10, _)] (fun h => And.intro (.inr ⟨_, rfl, h⟩) (trivial)) (fun h => (OpJ.load rfl rfl ty30 rfl)) ?_
  refine AList.g 12 9 rfl rfl rfl rfl rfl rfl rfl [(11, _)] (fun h => And.intro (.inr ⟨_, rfl, h⟩) (trivial)) (fun h => (OpJ.callP (isSpan_ok _ _ _ _) rfl rfl rfl rfl rf36)) ?_
  refine AList.c 13 rfl rfl rfl (OpJ.and_ rfl rfl rfl ?_) ?_
  · first | (intro h; rw [h]; rfl) | (intro h; simp_all)
  refine AList.c 14 rfl rfl rfl (OpJ.move rfl rfl) ?_
  refine AList.g 15 14 rfl rfl rfl rfl rfl rfl rfl [(1, _)] (fun h => And.intro (.inl rfl) (trivial)) (fun h => (OpJ.fieldAddr rfl rfl fd33_2 rfl)) ?_
  refine AList.g 16 14 rfl rfl rfl rfl rfl rfl rfl [(15, _)] (fun h => And.intro (.inr ⟨_, rfl, h⟩) (trivial)) (fun h => (OpJ.load rfl rfl ty3 rfl)) ?_
  refine AList.g 17 14 rfl rfl rfl rfl rfl rfl rfl [(16, _)] (fun h => And.intro (.inr ⟨_, rfl, h⟩) (trivial)) (fun h => (OpJ.callP (within_ok _ _ _) rfl rfl rfl rfl rf80)) ?_
  refine AList.c 18 rfl rfl rfl (OpJ.and_ rfl rfl rfl ?_) ?_
  · first | (intro h; rw [h]; rfl) | (intro h; simp_all)
  refine AList.c 4 rfl rfl rfl (OpJ.assign rfl rfl) ?_
  refine AList.nil ?_
  refine AWp.seq ?_
  refine AWp.region ?_
  refine AList.c 19 rfl rfl rfl (OpJ.fieldAddr rfl rfl fd33_4 rfl) ?_
  refine AList.c 20 rfl rfl rfl (OpJ.load rfl rfl ty30 rfl) ?_
  refine AList.c 21 rfl rfl rfl (OpJ.callP (isSpan_ok _ _ _ _) rfl rfl rfl rfl rf36) ?_
  refine AList.c 22 rfl rfl rfl (OpJ.move rfl rfl) ?_
  refine AList.g 23 22 rfl rfl rfl rfl rfl rfl rfl [(1, _)] (fun h => And.intro (.inl rfl) (trivial)) (fun h => (OpJ.fieldAddr rfl rfl fd33_5 rfl)) ?_
  refine AList.g 24 22 rfl rfl rfl rfl rfl rfl rfl [(23, _)] (fun h => And.intro (.inr ⟨_, rfl, h⟩) (trivial)) (fun h => (OpJ.load rfl rfl ty30 rfl)) ?_
  refine AList.g 25 22 rfl rfl rfl rfl rfl rfl rfl [(24, _)] (fun h => And.intro (.inr ⟨_, rfl, h⟩) (trivial)) (fun h => (OpJ.callP (isSpan_ok _ _ _ _) rfl rfl rfl rfl rf36)) ?_
  refine AList.c 26 rfl rfl rfl (OpJ.and_ rfl rfl rfl ?_) ?_
  · first | (intro h; rw [h]; rfl) | (intro h; simp_all)
  refine AList.c 27 rfl rfl rfl (OpJ.move rfl rfl) ?_
  refine AList.g 28 27 rfl rfl rfl rfl rfl rfl rfl [(1, _)] (fun h => And.intro (.inl rfl) (trivial)) (fun h => (OpJ.fieldAddr rfl rfl fd33_6 rfl)) ?_
  refine AList.g 29 27 rfl rfl rfl rfl rfl rfl rfl [(28, _)] (fun h => And.intro (.inr ⟨_, rfl, h⟩) (trivial)) (fun h => (OpJ.load rfl rfl ty3 rfl)) ?_
  refine AList.g 30 27 rfl rfl rfl rfl rfl rfl rfl [(29, _)] (fun h => And.intro (.inr ⟨_, rfl, h⟩) (trivial)) (fun h => (OpJ.callP (within_ok _ _ _) rfl rfl rfl rfl rf80)) ?_
  refine AList.c 31 rfl rfl rfl (OpJ.and_ rfl rfl rfl ?_) ?_
  · first | (intro h; rw [h]; rfl) | (intro h; simp_all)
  refine AList.c 5 rfl rfl rfl (OpJ.assign rfl rfl) ?_
  refine AList.nil ?_
  refine AWp.seq ?_
  refine AWp.region ?_
  refine AList.c 32 rfl rfl rfl (OpJ.move rfl rfl) ?_
  refine AList.c 33 rfl rfl rfl (OpJ.move rfl rfl) ?_
  refine AList.g 34 33 rfl rfl rfl rfl rfl rfl rfl [(5, _)] (fun h => And.intro (.inl rfl) (trivial)) (fun h => (OpJ.move rfl rfl)) ?_
  refine AList.c 35 rfl rfl rfl (OpJ.and_ rfl rfl rfl ?_) ?_
  · first | (intro h; rw [h]; rfl) | (intro h; simp_all)
  refine AList.c 36 rfl rfl rfl (OpJ.move rfl rfl) ?_
  refine AList.g 37 36 rfl rfl rfl rfl rfl rfl rfl [(1, _)] (fun h => And.intro (.inl rfl) (trivial)) (fun h => (OpJ.fieldAddr rfl rfl fd33_3 rfl)) ?_
  refine AList.g 38 36 rfl rfl rfl rfl rfl rfl rfl [(37, _)] (fun h => And.intro (.inr ⟨_, rfl, h⟩) (trivial)) (fun h => (OpJ.load rfl rfl ty31 rfl)) ?_
  refine AList.g 39 36 rfl rfl rfl rfl rfl rfl rfl [(38, _)] (fun h => And.intro (.inr ⟨_, rfl, h⟩) (trivial)) (fun h => (OpJ.lenSlice rfl rfl sl31 rfl)) ?_
  refine AList.g 40 36 rfl rfl rfl rfl rfl rfl rfl [(39, _)] (fun h => And.intro (.inr ⟨_, rfl, h⟩) (trivial)) (fun h => (OpJ.leq rfl rfl rfl)) ?_
  refine AList.c 41 rfl rfl rfl (OpJ.and_ rfl rfl rfl ?_) ?_
  · first | (intro h; rw [h]; rfl) | (intro h; simp_all)
  refine AList.c 42 rfl rfl rfl (OpJ.move rfl rfl) ?_
  refine AList.g 43 42 rfl rfl rfl rfl rfl rfl rfl [(1, _)] (fun h => And.intro (.inl rfl) (trivial)) (fun h => (OpJ.fieldAddr rfl rfl fd33_3 rfl)) ?_
  refine AList.g 44 42 rfl rfl rfl rfl rfl rfl rfl [(43, _)] (fun h => And.intro (.inr ⟨_, rfl, h⟩) (trivial)) (fun h => (OpJ.load rfl rfl ty31 rfl)) ?_
  refine AList.g 45 42 rfl rfl rfl rfl rfl rfl rfl [(3, _)] (fun h => And.intro (.inl rfl) (trivial)) (fun h => (OpJ.move rfl rfl)) ?_
  refine AList.g 46 42 rfl rfl rfl rfl rfl rfl rfl [(44, _), (45, _)] (fun h => And.intro (.inr ⟨_, rfl, h⟩) (And.intro (.inr ⟨_, rfl, h⟩) (trivial))) (fun h => (OpJ.callP (containsFK_ok l.st _ (fun s => !stkB s) hb (fun x _ => ⟨129, [.agg x.cells], rfl, rf129, isLeads1_ok x⟩)) rfl rfl rfl rfl rf67)) ?_
  refine AList.g 47 42 rfl rfl rfl rfl rfl rfl rfl [(46, _)] (fun h => And.intro (.inr ⟨_, rfl, h⟩) (trivial)) (fun h => (OpJ.not_ rfl rfl)) ?_
  refine AList.c 48 rfl rfl rfl (OpJ.and_ rfl rfl rfl ?_) ?_
  · first | (intro h; rw [h]; rfl) | (intro h; simp_all)
  refine AList.c 2 rfl rfl rfl (OpJ.assign rfl rfl) ?_
  refine AList.nil ?_
  refine AWp.ret ?_
  refine Fin.oneE rfl rfl ?_
  unfold ldB; rw [not_any_not, len6]
theorem isBad_ok (l : Lds) (hb : l.st.length ≤ bigN) : Pure Tryz.prog 78 [ldV l] (.bool (!ldB l)) := by
  refine Pure.start (N := 6) Tryz.func78 rfl rfl (Nat.le_of_ble_eq_true rfl) ?_
  refine AWp.seq ?_
  refine AWp.region ?_
  refine AList.c 1 rfl rfl rfl (OpJ.boxImm rfl rfl rfl) ?_
  refine AList.c 2 rfl rfl rfl (OpJ.assign rfl rfl) ?_
  refine AList.nil ?_
  refine AWp.seq ?_
  refine AWp.region ?_
  refine AList.c 3 rfl rfl rfl (OpJ.load rfl rfl ty33 rfl) ?_
  refine AList.c 4 rfl rfl rfl (OpJ.callP (isLeads_ok _ ?_) rfl rfl rfl rfl rf107) ?_
  · assumption
  refine AList.c 5 rfl rfl rfl (OpJ.not_ rfl rfl) ?_
  refine AList.c 2 rfl rfl rfl (OpJ.assign rfl rfl) ?_
  refine AList.nil ?_
  refine AWp.ret ?_
  exact Fin.one rfl (rfl)
theorem isCurve_ok (c : List Tnt) (hb : c.length ≤ bigN) : Pure Tryz.prog 37 [curV c] (.bool (decide (okC c))) := by
  unfold bigN at hb
  refine Pure.start (N := 64) Tryz.func37 rfl rfl (Nat.le_of_ble_eq_true rfl) ?_
  refine AWp.seq ?_
  refine AWp.region ?_
  refine AList.c 2 rfl rfl rfl (OpJ.assign rfl rfl) ?_
  refine AList.nil ?_
  refine AWp.seq ?_
  refine AWp.seq ?_
  refine AWp.region ?_
  refine AList.c 5 rfl rfl rfl (OpJ.move rfl rfl) ?_
  refine AList.c 6 rfl rfl rfl (OpJ.lenSlice rfl rfl sl22 rfl) ?_
  refine AList.c 7 rfl rfl rfl (OpJ.callP (within_ok _ _ _) rfl rfl rfl rfl rf80) ?_
  refine AList.c 8 rfl rfl rfl (OpJ.not_ rfl rfl) ?_
  refine AList.c 9 rfl rfl rfl (OpJ.move rfl rfl) ?_
  refine AList.g 10 9 rfl rfl rfl rfl rfl rfl rfl [(0, _)] (fun h => And.intro (.inl rfl) (trivial)) (fun h => (OpJ.move rfl rfl)) ?_
  refine AList.g 11 9 rfl rfl rfl rfl rfl rfl rfl [(10, _)] (fun h => And.intro (.inr ⟨_, rfl, h⟩) (trivial)) (fun h => (OpJ.indexG (g := tn c) (k := 0) (fun _ h => tn_get h) rfl rfl rfl sl22 el22 rfl (fun _ => rfl) (by decide) (by simp [inB] at h; omega))) ?_
  refine AList.g 12 9 rfl rfl rfl rfl rfl rfl rfl [(11, _)] (fun h => And.intro (.inr ⟨_, rfl, h⟩) (trivial)) (fun h => (OpJ.fieldAddr rfl rfl fd159_0 rfl)) ?_
  refine AList.g 13 9 rfl rfl rfl rfl rfl rfl rfl [(12, _)] (fun h => And.intro (.inr ⟨_, rfl, h⟩) (trivial)) (fun h => (OpJ.load rfl rfl ty3 rfl)) ?_
  refine AList.g 14 9 rfl rfl rfl rfl rfl rfl rfl [(13, _)] (fun h => And.intro (.inr ⟨_, rfl, h⟩) (trivial)) (fun h => (OpJ.neq rfl rfl rfl)) ?_
  refine AList.c 15 rfl rfl rfl (OpJ.or_ rfl rfl rfl ?_) ?_
  · first | (intro h; rw [h]; rfl) | (intro h; simp_all)
  refine AList.c 16 rfl rfl rfl (OpJ.move rfl rfl) ?_
  refine AList.g 17 16 rfl rfl rfl rfl rfl rfl rfl [(0, _)] (fun h => And.intro (.inl rfl) (trivial)) (fun h => (OpJ.move rfl rfl)) ?_
  refine AList.g 18 16 rfl rfl rfl rfl rfl rfl rfl [(0, _)] (fun h => And.intro (.inl rfl) (trivial)) (fun h => (OpJ.move rfl rfl)) ?_
  refine AList.g 19 16 rfl rfl rfl rfl rfl rfl rfl [(18, _)] (fun h => And.intro (.inr ⟨_, rfl, h⟩) (trivial)) (fun h => (OpJ.lenSlice rfl rfl sl22 rfl)) ?_
  refine AList.g 20 16 rfl rfl rfl rfl rfl rfl rfl [(19, _)] (fun h => And.intro (.inr ⟨_, rfl, h⟩) (trivial)) (fun h => (OpJ.sub_ (m := ((c.length - 1 : Nat) : Int)) rfl rfl rfl ((i64ok (by simp [inB] at h; omega)).trans (by simp [inB] at h; omega)))) ?_
  refine AList.g 21 16 rfl rfl rfl rfl rfl rfl rfl [(17, _), (20, _)] (fun h => And.intro (.inr ⟨_, rfl, h⟩) (And.intro (.inr ⟨_, rfl, h⟩) (trivial))) (fun h => (OpJ.indexG (g := tn c) (fun _ h => tn_get h) rfl rfl rfl sl22 el22 rfl (fun _ => rfl) (by decide) (by simp [inB] at h; omega))) ?_
  refine AList.g 22 16 rfl rfl rfl rfl rfl rfl rfl [(21, _)] (fun h => And.intro (.inr ⟨_, rfl, h⟩) (trivial)) (fun h => (OpJ.fieldAddr rfl rfl fd159_0 rfl)) ?_
  refine AList.g 23 16 rfl rfl rfl rfl rfl rfl rfl [(22, _)] (fun h => And.intro (.inr ⟨_, rfl, h⟩) (trivial)) (fun h => (OpJ.load rfl rfl ty3 rfl)) ?_
  refine AList.g 24 16 rfl rfl rfl rfl rfl rfl rfl [(23, _)] (fun h => And.intro (.inr ⟨_, rfl, h⟩) (trivial)) (fun h => (OpJ.neq rfl rfl rfl)) ?_
  refine AList.c 25 rfl rfl rfl (OpJ.or_ rfl rfl rfl ?_) ?_
  · first | (intro h; rw [h]; rfl) | (intro h; simp_all)
  refine AList.nil ?_
  refine AWp.cond _ rfl (fun hc0 => ?_) (fun hc0 => ?_)
  · skip
    refine AWp.seq ?_
    refine AWp.region ?_
    refine AList.c 2 rfl rfl rfl (OpJ.assign rfl rfl) ?_
    refine AList.nil ?_
    refine AWp.ret ?_
    refine Fin.oneE rfl rfl ?_
    rw [decide_eq_false (p := okC c) (fun h => by have h1 := h.1; have h2 := h.2.1; have h3 := h.2.2.1; simp [inB, h2, h3] at hc0; omega)]
  · skip
    have hA : (2 ≤ c.length ∧ c.length ≤ 8) ∧ (tn c 0).r = 0 ∧ (tn c (c.length - 1)).r = 1000 := by simp [inB] at hc0; omega
    refine AWp.skip ?_
    refine AWp.seq ?_
    refine AWp.seq ?_
    refine AWp.region ?_
    refine AList.c 26 rfl rfl rfl (OpJ.move rfl rfl) ?_
    refine AList.c 27 rfl rfl rfl (OpJ.lenSlice rfl rfl sl22 rfl) ?_
    refine AList.c 28 rfl rfl rfl (OpJ.move rfl rfl) ?_
    refine AList.nil ?_
    refine AWp.block ?_
    refine AWp.loopHL [0, 26, 27] (fun g => [(28, .p (.int .i64 ((g : Nat) : Int)))]) (fun g => []) (fun g => g ≤ c.length ∧ ∀ j, j < g → stepOk c j) (fun g => c.length - g) 0 ⟨Nat.zero_le _, fun j hj => absurd hj (by omega)⟩ (To.sub (Sub.chk (Sub.cons rfl (Sub.nil)))) (fun i hg => ?_)
    obtain ⟨hg1, hg2⟩ := hg
    refine AWp.seq ?_
    refine AWp.region ?_
    refine AList.c 29 rfl rfl rfl (OpJ.lss rfl rfl rfl) ?_
    refine AList.nil ?_
    refine AWp.seq ?_
    refine AWp.cond _ rfl (fun hc1 => ?_) (fun hc1 => ?_)
    · skip
      have hk0 : i < c.length := by have h := of_decide_eq_true hc1; omega
      refine AWp.skip ?_
      refine AWp.seq ?_
      refine AWp.block ?_
      refine AWp.seq ?_
      refine AWp.region ?_
      refine AList.c 30 rfl rfl rfl (OpJ.move rfl rfl) ?_
      refine AList.c 31 rfl rfl rfl (OpJ.indexG (g := tn c) (fun _ h => tn_get h) rfl rfl rfl sl22 el22 rfl (fun _ => rfl) (by decide) hk0) ?_
      refine AList.c 32 rfl rfl rfl (OpJ.load rfl rfl ty159 rfl) ?_
      refine AList.c 4 rfl rfl rfl (OpJ.allocOwn rfl zr159 rfl) ?_
      refine AList.c 3 rfl rfl rfl (OpJ.assign rfl rfl) ?_
      refine AList.c0 rfl rfl (OpJ.store rfl rfl rfl rfl rfl ty159 rfl rfl) ?_
      refine AList.nil ?_
      refine AWp.seq ?_
      refine AWp.regionDraw 30 mixed (by kernel_rfl) (by decide) ?_
      refine AQuiet.cons 33 rfl rfl rfl (OpJ.fieldAddr rfl rfl fd159_1 rfl) ?_
      refine AQuiet.cons 34 rfl rfl rfl (OpJ.load rfl rfl ty3 rfl) ?_
      refine AQuiet.cons 35 rfl rfl rfl (OpJ.callP (within_ok _ _ _) rfl rfl rfl rfl rf80) ?_
      refine AQuiet.cons 36 rfl rfl rfl (OpJ.not_ rfl rfl) ?_
      refine AQuiet.cons 37 rfl rfl rfl (OpJ.move rfl rfl) ?_
      refine AQuiet.guard 38 37 rfl rfl rfl rfl rfl rfl rfl [(3, _)] (fun h => And.intro (.inl rfl) (trivial)) (fun h => (OpJ.move rfl rfl)) ?_
      refine AQuiet.guard 39 37 rfl rfl rfl rfl rfl rfl rfl [(38, _)] (fun h => And.intro (.inr ⟨_, rfl, h⟩) (trivial)) (fun h => (OpJ.gtr rfl rfl rfl)) ?_
      refine AQuiet.guard 40 37 rfl rfl rfl rfl rfl rfl rfl [(39, _)] (fun h => And.intro (.inr ⟨_, rfl, h⟩) (trivial)) (fun h => (OpJ.move rfl rfl)) ?_
      refine AQuiet.guard 41 40 rfl rfl rfl rfl rfl rfl rfl [(4, _)] (fun h => And.intro (.inl rfl) (trivial)) (fun h => (OpJ.fieldAddr rfl rfl fd159_0 rfl)) ?_
      refine AQuiet.guard 42 40 rfl rfl rfl rfl rfl rfl rfl [(41, _)] (fun h => And.intro (.inr ⟨_, rfl, h⟩) (trivial)) (fun h => (OpJ.load rfl rfl ty3 rfl)) ?_
      refine AQuiet.guard 43 40 rfl rfl rfl rfl rfl rfl rfl [(0, _)] (fun h => And.intro (.inl rfl) (trivial)) (fun h => (OpJ.move rfl rfl)) ?_
      refine AQuiet.guard 44 40 rfl rfl rfl rfl rfl rfl rfl [(3, _)] (fun h => And.intro (.inl rfl) (trivial)) (fun h => (OpJ.move rfl rfl)) ?_
      refine AQuiet.guard 45 40 rfl rfl rfl rfl rfl rfl rfl [(44, _)] (fun h => And.intro (.inr ⟨_, rfl, h⟩) (trivial)) (fun h => (OpJ.sub_ (m := ((i - 1 : Nat) : Int)) rfl rfl rfl ((i64ok (by simp at h; omega)).trans (by simp at h; omega)))) ?_
      refine AQuiet.guard 46 40 rfl rfl rfl rfl rfl rfl rfl [(43, _), (45, _)] (fun h => And.intro (.inr ⟨_, rfl, h⟩) (And.intro (.inr ⟨_, rfl, h⟩) (trivial))) (fun h => (OpJ.indexG (g := tn c) (fun _ h => tn_get h) rfl rfl rfl sl22 el22 rfl (fun _ => rfl) (by decide) (by omega))) ?_
      refine AQuiet.guard 47 40 rfl rfl rfl rfl rfl rfl rfl [(46, _)] (fun h => And.intro (.inr ⟨_, rfl, h⟩) (trivial)) (fun h => (OpJ.fieldAddr rfl rfl fd159_0 rfl)) ?_
      refine AQuiet.guard 48 40 rfl rfl rfl rfl rfl rfl rfl [(47, _)] (fun h => And.intro (.inr ⟨_, rfl, h⟩) (trivial)) (fun h => (OpJ.load rfl rfl ty3 rfl)) ?_
      refine AQuiet.guard 49 40 rfl rfl rfl rfl rfl rfl rfl [(42, _), (48, _)] (fun h => And.intro (.inr ⟨_, rfl, h⟩) (And.intro (.inr ⟨_, rfl, h⟩) (trivial))) (fun h => (OpJ.leq rfl rfl rfl)) ?_
      refine AQuiet.guard 50 40 rfl rfl rfl rfl rfl rfl rfl [(49, _)] (fun h => And.intro (.inr ⟨_, rfl, h⟩) (trivial)) (fun h => (OpJ.move rfl rfl)) ?_
      refine AQuiet.guard 51 50 rfl rfl rfl rfl rfl rfl rfl [(4, _)] (fun h => And.intro (.inl rfl) (trivial)) (fun h => (OpJ.fieldAddr rfl rfl fd159_1 rfl)) ?_
      refine AQuiet.guard 52 50 rfl rfl rfl rfl rfl rfl rfl [(51, _)] (fun h => And.intro (.inr ⟨_, rfl, h⟩) (trivial)) (fun h => (OpJ.load rfl rfl ty3 rfl)) ?_
      refine AQuiet.guard 53 50 rfl rfl rfl rfl rfl rfl rfl [(0, _)] (fun h => And.intro (.inl rfl) (trivial)) (fun h => (OpJ.move rfl rfl)) ?_
      refine AQuiet.guard 54 50 rfl rfl rfl rfl rfl rfl rfl [(3, _)] (fun h => And.intro (.inl rfl) (trivial)) (fun h => (OpJ.move rfl rfl)) ?_
      refine AQuiet.guard 55 50 rfl rfl rfl rfl rfl rfl rfl [(54, _)] (fun h => And.intro (.inr ⟨_, rfl, h⟩) (trivial)) (fun h => (OpJ.sub_ (m := ((i - 1 : Nat) : Int)) rfl rfl rfl ((i64ok (by simp at h; omega)).trans (by simp at h; omega)))) ?_
      refine AQuiet.guard 56 50 rfl rfl rfl rfl rfl rfl rfl [(53, _), (55, _)] (fun h => And.intro (.inr ⟨_, rfl, h⟩) (And.intro (.inr ⟨_, rfl, h⟩) (trivial))) (fun h => (OpJ.indexG (g := tn c) (fun _ h => tn_get h) rfl rfl rfl sl22 el22 rfl (fun _ => rfl) (by decide) (by omega))) ?_
      refine AQuiet.guard 57 50 rfl rfl rfl rfl rfl rfl rfl [(56, _)] (fun h => And.intro (.inr ⟨_, rfl, h⟩) (trivial)) (fun h => (OpJ.fieldAddr rfl rfl fd159_1 rfl)) ?_
      refine AQuiet.guard 58 50 rfl rfl rfl rfl rfl rfl rfl [(57, _)] (fun h => And.intro (.inr ⟨_, rfl, h⟩) (trivial)) (fun h => (OpJ.load rfl rfl ty3 rfl)) ?_
      refine AQuiet.guard 59 50 rfl rfl rfl rfl rfl rfl rfl [(52, _), (58, _)] (fun h => And.intro (.inr ⟨_, rfl, h⟩) (And.intro (.inr ⟨_, rfl, h⟩) (trivial))) (fun h => (OpJ.lss rfl rfl rfl)) ?_
      refine AQuiet.guard 60 40 rfl rfl rfl rfl rfl rfl rfl [(50, _), (59, _)] (fun h => And.intro (.inr ⟨_, rfl, h⟩) (And.intro (.inl rfl) (trivial))) (fun h => (OpJ.or_ rfl rfl rfl ?_)) ?_
      · first | (intro h; rw [h]; rfl) | (intro h; simp_all)
      refine AQuiet.guard 61 37 rfl rfl rfl rfl rfl rfl rfl [(40, _), (60, _)] (fun h => And.intro (.inr ⟨_, rfl, h⟩) (And.intro (.inl rfl) (trivial))) (fun h => (OpJ.and_ rfl rfl rfl ?_)) ?_
      · first | (intro h; rw [h]; rfl) | (intro h; simp_all)
      refine AQuiet.cons 62 rfl rfl rfl (OpJ.or_ rfl rfl rfl ?_) ?_
      · first | (intro h; rw [h]; rfl) | (intro h; simp_all)
      refine AQuiet.nil ?_
      refine AList.nil ?_
      refine AWp.cond _ rfl (fun hc2 => ?_) (fun hc2 => ?_)
      · skip
        refine AWp.seq ?_
        refine AWp.region ?_
        refine AList.c 2 rfl rfl rfl (OpJ.assign rfl rfl) ?_
        refine AList.nil ?_
        refine AWp.ret ?_
        refine Fin.oneE rfl rfl ?_
        rw [decide_eq_false (p := okC c) (fun h => by have h1 := h.2.2.2 i hk0; unfold stepOk at h1; simp [inB] at hc2; omega)]
      · skip
        have hst : stepOk c i := by unfold stepOk; simp [inB] at hc2; omega
        refine AWp.skip ?_
        refine AWp.region ?_
        refine AList.c 63 rfl rfl rfl (OpJ.add rfl rfl rfl (i64ok ?_)) ?_
        · omega
        refine AList.c 28 rfl rfl rfl (OpJ.move rfl rfl) ?_
        refine AList.nil ?_
        refine ⟨i + 1, ?_, ?_, ?_⟩
        · refine ⟨by omega, fun j hj => ?_⟩
          rcases Nat.lt_succ_iff_lt_or_eq.1 hj with h1 | rfl
          · exact hg2 j h1
          · exact hst
        · omega
        exact To.done [] rfl (by repeat (first | exact Sub.nil | refine Sub.cons rfl ?_)) rfl
    · skip
      obtain rfl : i = c.length := by have h := of_decide_eq_false hc1; omega
      refine AWp.exit ?_
      refine AWp.seq ?_
      refine AWp.region ?_
      refine AList.c 2 rfl rfl rfl (OpJ.assign rfl rfl) ?_
      refine AList.nil ?_
      refine AWp.ret ?_
      refine Fin.oneE rfl rfl ?_
      rw [decide_eq_true (p := okC c) ⟨hA.1, hA.2.1, hA.2.2, hg2⟩]
end Go.Proofs.YtbnemnhmejmeeaaGreatDoor.Sh
end

section
set_option linter.unusedVariables false
set_option maxRecDepth 100000
set_option maxHeartbeats 4000000
set_option linter.unusedSimpArgs false
namespace Go.Proofs.YtbnemnhmejmeeaaGreatDoor.Sh
open Go.AF
theorem rleads_ok (l : Lds) (hb : l.st.length ≤ bigN) : Pure Tryz.prog 21 [ldV l] (.bool (ldB l)) := by
  unfold bigN at hb
  refine Pure.start (N := 63) Tryz.func21 rfl rfl (Nat.le_of_ble_eq_true rfl) ?_
  refine AWp.seq ?_
  refine AWp.region ?_
  refine AList.c 1 rfl rfl rfl (OpJ.boxImm rfl rfl rfl) ?_
  refine AList.c 2 rfl rfl rfl (OpJ.assign rfl rfl) ?_
  refine AList.nil ?_
  refine AWp.seq ?_
  refine AWp.seq ?_
  refine AWp.region ?_
  refine AList.c 3 rfl rfl rfl (OpJ.assign rfl rfl) ?_
  refine AList.nil ?_
  refine AWp.block ?_
  refine AWp.loopKL [1, 29, 30, 31, 32, 33, 34, 35, 36, 37, 38, 39, 40, 41, 42, 43, 44, 45, 46, 47, 48, 49, 50, 51, 52, 53, 54, 55, 56, 57, 58, 59, 60, 61, 62] (fun g => [(3, .p (.int .i64 ((g : Nat) : Int)))]) (fun g => g ≤ l.st.length ∧ ∀ j, j < g → stkB (stk l.st j) = true) (fun g => l.st.length - g) 0 ⟨Nat.zero_le _, fun j hj => absurd hj (by omega)⟩ (Sub.cons rfl (Sub.nil)) (fun i hg => ?_)
  obtain ⟨hg1, hg2⟩ := hg
  refine AWp.seq ?_
  refine AWp.seq ?_
  refine AWp.region ?_
  refine AList.c 4 rfl rfl rfl (OpJ.move rfl rfl) ?_
  refine AList.c 5 rfl rfl rfl (OpJ.fieldAddr rfl rfl fd33_3 rfl) ?_
  refine AList.c 6 rfl rfl rfl (OpJ.load rfl rfl ty31 rfl) ?_
  refine AList.c 7 rfl rfl rfl (OpJ.lenSlice rfl rfl sl31 rfl) ?_
  refine AList.c 8 rfl rfl rfl (OpJ.lss rfl rfl rfl) ?_
  refine AList.nil ?_
  refine AWp.cond _ rfl (fun hc0 => ?_) (fun hc0 => ?_)
  · skip
    have hk0 : i < l.st.length := by have h := of_decide_eq_true hc0; omega
    refine AWp.skip ?_
    refine AWp.seq ?_
    refine AWp.block ?_
    refine AWp.seq ?_
    refine AWp.region ?_
    refine AList.c 11 rfl rfl rfl (OpJ.fieldAddr rfl rfl fd33_3 rfl) ?_
    refine AList.c 12 rfl rfl rfl (OpJ.load rfl rfl ty31 rfl) ?_
    refine AList.c 13 rfl rfl rfl (OpJ.move rfl rfl) ?_
    refine AList.c 14 rfl rfl rfl (OpJ.indexG (g := stk l.st) (fun _ h => stk_get h) rfl rfl rfl sl31 el31 rfl (fun _ => rfl) (by decide) hk0) ?_
    refine AList.c 15 rfl rfl rfl (OpJ.fieldAddr rfl rfl fd82_0 rfl) ?_
    refine AList.c 16 rfl rfl rfl (OpJ.load rfl rfl ty30 rfl) ?_
    refine AList.c 17 rfl rfl rfl (OpJ.callP (rspan_ok _ _ _ _) rfl rfl rfl rfl rf58) ?_
    refine AList.c 18 rfl rfl rfl (OpJ.not_ rfl rfl) ?_
    refine AList.c 19 rfl rfl rfl (OpJ.move rfl rfl) ?_
    refine AList.g 20 19 rfl rfl rfl rfl rfl rfl rfl [(1, _)] (fun h => And.intro (.inl rfl) (trivial)) (fun h => (OpJ.fieldAddr rfl rfl fd33_3 rfl)) ?_
    refine AList.g 21 19 rfl rfl rfl rfl rfl rfl rfl [(20, _)] (fun h => And.intro (.inr ⟨_, rfl, h⟩) (trivial)) (fun h => (OpJ.load rfl rfl ty31 rfl)) ?_
    refine AList.g 22 19 rfl rfl rfl rfl rfl rfl rfl [(3, _)] (fun h => And.intro (.inl rfl) (trivial)) (fun h => (OpJ.move rfl rfl)) ?_
    refine AList.g 23 19 rfl rfl rfl rfl rfl rfl rfl [(21, _), (22, _)] (fun h => And.intro (.inr ⟨_, rfl, h⟩) (And.intro (.inr ⟨_, rfl, h⟩) (trivial))) (fun h => (OpJ.indexG (g := stk l.st) (fun _ h => stk_get h) rfl rfl rfl sl31 el31 rfl (fun _ => rfl) (by decide) hk0)) ?_
    refine AList.g 24 19 rfl rfl rfl rfl rfl rfl rfl [(23, _)] (fun h => And.intro (.inr ⟨_, rfl, h⟩) (trivial)) (fun h => (OpJ.fieldAddr rfl rfl fd82_1 rfl)) ?_
    refine AList.g 25 19 rfl rfl rfl rfl rfl rfl rfl [(24, _)] (fun h => And.intro (.inr ⟨_, rfl, h⟩) (trivial)) (fun h => (OpJ.load rfl rfl ty30 rfl)) ?_
    refine AList.g 26 19 rfl rfl rfl rfl rfl rfl rfl [(25, _)] (fun h => And.intro (.inr ⟨_, rfl, h⟩) (trivial)) (fun h => (OpJ.callP (rspan_ok _ _ _ _) rfl rfl rfl rfl rf58)) ?_
    refine AList.g 27 19 rfl rfl rfl rfl rfl rfl rfl [(26, _)] (fun h => And.intro (.inr ⟨_, rfl, h⟩) (trivial)) (fun h => (OpJ.not_ rfl rfl)) ?_
    refine AList.c 28 rfl rfl rfl (OpJ.or_ rfl rfl rfl ?_) ?_
    · first | (intro h; rw [h]; rfl) | (intro h; simp_all)
    refine AList.nil ?_
    refine AWp.cond _ rfl (fun hc1 => ?_) (fun hc1 => ?_)
    · skip
      have hst : stkB (stk l.st i) = false := by unfold stkB; rw [Bool.eq_false_iff]; intro h; rw [Bool.and_eq_true] at h; rw [h.1, h.2] at hc1; cases hc1
      refine AWp.seq ?_
      refine AWp.region ?_
      refine AList.c 2 rfl rfl rfl (OpJ.assign rfl rfl) ?_
      refine AList.nil ?_
      refine AWp.ret ?_
      refine Fin.oneE rfl rfl ?_
      rw [ldB_st_false (stk_mem hk0) hst]
    · skip
      have hst : stkB (stk l.st i) = true := by unfold stkB; cases h1 : spB (stk l.st i).rlo (stk l.st i).rhi 0 1000 <;> rw [h1] at hc1 <;> simp at hc1; rw [hc1]; rfl
      refine AWp.skip ?_
      refine AWp.region ?_
      refine AList.c 9 rfl rfl rfl (OpJ.move rfl rfl) ?_
      refine AList.c 10 rfl rfl rfl (OpJ.add rfl rfl rfl (i64ok ?_)) ?_
      · omega
      refine AList.c 3 rfl rfl rfl (OpJ.assign rfl rfl) ?_
      refine AList.nil ?_
      refine ⟨i + 1, ?_, ?_, ?_⟩
      · refine ⟨by omega, fun j hj => ?_⟩
        rcases Nat.lt_succ_iff_lt_or_eq.1 hj with h1 | rfl
        · exact hg2 j h1
        · exact hst
      · omega
      exact To.done [] rfl (by repeat (first | exact Sub.nil | refine Sub.cons rfl ?_)) rfl
  · skip
    obtain rfl : i = l.st.length := by have h := of_decide_eq_false hc0; omega
    refine AWp.exit ?_
    refine AWp.seq ?_
    refine AWp.region ?_
    refine AList.c 29 rfl rfl rfl (OpJ.fieldAddr rfl rfl fd33_3 rfl) ?_
    refine AList.c 30 rfl rfl rfl (OpJ.load rfl rfl ty31 rfl) ?_
    refine AList.c 31 rfl rfl rfl (OpJ.lenSlice rfl rfl sl31 rfl) ?_
    refine AList.c 32 rfl rfl rfl (OpJ.leq rfl rfl rfl) ?_
    refine AList.c 33 rfl rfl rfl (OpJ.move rfl rfl) ?_
    refine AList.g 34 33 rfl rfl rfl rfl rfl rfl rfl [(1, _)] (fun h => And.intro (.inl rfl) (trivial)) (fun h => (OpJ.fieldAddr rfl rfl fd33_0 rfl)) ?_
    refine AList.g 35 33 rfl rfl rfl rfl rfl rfl rfl [(34, _)] (fun h => And.intro (.inr ⟨_, rfl, h⟩) (trivial)) (fun h => (OpJ.load rfl rfl ty30 rfl)) ?_
    refine AList.g 36 33 rfl rfl rfl rfl rfl rfl rfl [(35, _)] (fun h => And.intro (.inr ⟨_, rfl, h⟩) (trivial)) (fun h => (OpJ.callP (rspan_ok _ _ _ _) rfl rfl rfl rfl rf58)) ?_
    refine AList.c 37 rfl rfl rfl (OpJ.and_ rfl rfl rfl ?_) ?_
    · first | (intro h; rw [h]; rfl) | (intro h; simp_all)
    refine AList.c 38 rfl rfl rfl (OpJ.move rfl rfl) ?_
    refine AList.g 39 38 rfl rfl rfl rfl rfl rfl rfl [(1, _)] (fun h => And.intro (.inl rfl) (trivial)) (fun h => (OpJ.fieldAddr rfl rfl fd33_1 rfl)) ?_
    refine AList.g 40 38 rfl rfl rfl rfl rfl rfl rfl [(39, _)] (fun h => And.intro (.inr ⟨_, rfl, h⟩) (trivial)) (fun h => (OpJ.load rfl rfl ty30 rfl)) ?_
    refine AList.g 41 38 rfl rfl rfl rfl rfl rfl rfl [(40, _)] (fun h => And.intro (.inr ⟨_, rfl, h⟩) (trivial)) (fun h => (OpJ.callP (rspan_ok _ _ _ _) rfl rfl rfl rfl rf58)) ?_
    refine AList.c 42 rfl rfl rfl (OpJ.and_ rfl rfl rfl ?_) ?_
    · first | (intro h; rw [h]; rfl) | (intro h; simp_all)
    refine AList.c 43 rfl rfl rfl (OpJ.move rfl rfl) ?_
    refine AList.g 44 43 rfl rfl rfl rfl rfl rfl rfl [(1, _)] (fun h => And.intro (.inl rfl) (trivial)) (fun h => (OpJ.fieldAddr rfl rfl fd33_2 rfl)) ?_
    refine AList.g 45 43 rfl rfl rfl rfl rfl rfl rfl [(44, _)] (fun h => And.intro (.inr ⟨_, rfl, h⟩) (trivial)) (fun h => (OpJ.load rfl rfl ty3 rfl)) ?_
    refine AList.g 46 43 rfl rfl rfl rfl rfl rfl rfl [(45, _)] (fun h => And.intro (.inr ⟨_, rfl, h⟩) (trivial)) (fun h => (OpJ.callP (in_ok _ _ _) rfl rfl rfl rfl rf59)) ?_
    refine AList.c 47 rfl rfl rfl (OpJ.and_ rfl rfl rfl ?_) ?_
    · first | (intro h; rw [h]; rfl) | (intro h; simp_all)
    refine AList.c 48 rfl rfl rfl (OpJ.move rfl rfl) ?_
    refine AList.g 49 48 rfl rfl rfl rfl rfl rfl rfl [(1, _)] (fun h => And.intro (.inl rfl) (trivial)) (fun h => (OpJ.fieldAddr rfl rfl fd33_4 rfl)) ?_
    refine AList.g 50 48 rfl rfl rfl rfl rfl rfl rfl [(49, _)] (fun h => And.intro (.inr ⟨_, rfl, h⟩) (trivial)) (fun h => (OpJ.load rfl rfl ty30 rfl)) ?_
    refine AList.g 51 48 rfl rfl rfl rfl rfl rfl rfl [(50, _)] (fun h => And.intro (.inr ⟨_, rfl, h⟩) (trivial)) (fun h => (OpJ.callP (rspan_ok _ _ _ _) rfl rfl rfl rfl rf58)) ?_
    refine AList.c 52 rfl rfl rfl (OpJ.and_ rfl rfl rfl ?_) ?_
    · first | (intro h; rw [h]; rfl) | (intro h; simp_all)
    refine AList.c 53 rfl rfl rfl (OpJ.move rfl rfl) ?_
    refine AList.g 54 53 rfl rfl rfl rfl rfl rfl rfl [(1, _)] (fun h => And.intro (.inl rfl) (trivial)) (fun h => (OpJ.fieldAddr rfl rfl fd33_5 rfl)) ?_
    refine AList.g 55 53 rfl rfl rfl rfl rfl rfl rfl [(54, _)] (fun h => And.intro (.inr ⟨_, rfl, h⟩) (trivial)) (fun h => (OpJ.load rfl rfl ty30 rfl)) ?_
    refine AList.g 56 53 rfl rfl rfl rfl rfl rfl rfl [(55, _)] (fun h => And.intro (.inr ⟨_, rfl, h⟩) (trivial)) (fun h => (OpJ.callP (rspan_ok _ _ _ _) rfl rfl rfl rfl rf58)) ?_
    refine AList.c 57 rfl rfl rfl (OpJ.and_ rfl rfl rfl ?_) ?_
    · first | (intro h; rw [h]; rfl) | (intro h; simp_all)
    refine AList.c 58 rfl rfl rfl (OpJ.move rfl rfl) ?_
    refine AList.g 59 58 rfl rfl rfl rfl rfl rfl rfl [(1, _)] (fun h => And.intro (.inl rfl) (trivial)) (fun h => (OpJ.fieldAddr rfl rfl fd33_6 rfl)) ?_
    refine AList.g 60 58 rfl rfl rfl rfl rfl rfl rfl [(59, _)] (fun h => And.intro (.inr ⟨_, rfl, h⟩) (trivial)) (fun h => (OpJ.load rfl rfl ty3 rfl)) ?_
    refine AList.g 61 58 rfl rfl rfl rfl rfl rfl rfl [(60, _)] (fun h => And.intro (.inr ⟨_, rfl, h⟩) (trivial)) (fun h => (OpJ.callP (in_ok _ _ _) rfl rfl rfl rfl rf59)) ?_
    refine AList.c 62 rfl rfl rfl (OpJ.and_ rfl rfl rfl ?_) ?_
    · first | (intro h; rw [h]; rfl) | (intro h; simp_all)
    refine AList.c 2 rfl rfl rfl (OpJ.assign rfl rfl) ?_
    refine AList.nil ?_
    refine AWp.ret ?_
    refine Fin.oneE rfl rfl ?_
    rw [ldB_st_true (fun x hx => by obtain ⟨j, hj, rfl⟩ := List.getElem_of_mem hx; rw [stk_get hj]; exact hg2 j hj), len6]
theorem rall_ok (l : List Lds) (hb : l.length ≤ bigN) (hs : ∀ x ∈ l, x.st.length ≤ bigN) : Pure Tryz.prog 5 [ldsV l] (.bool (l.all ldB)) := by
  unfold bigN at hb
  refine Pure.start (N := 16) Tryz.func5 rfl rfl (Nat.le_of_ble_eq_true rfl) ?_
  refine AWp.seq ?_
  refine AWp.region ?_
  refine AList.c 2 rfl rfl rfl (OpJ.assign rfl rfl) ?_
  refine AList.nil ?_
  refine AWp.seq ?_
  refine AWp.seq ?_
  refine AWp.region ?_
  refine AList.c 3 rfl rfl rfl (OpJ.assign rfl rfl) ?_
  refine AList.nil ?_
  refine AWp.block ?_
  refine AWp.loopKL [0] (fun g => [(3, .p (.int .i64 ((g : Nat) : Int)))]) (fun g => g ≤ l.length ∧ ∀ j, j < g → ldB (ld l j) = true) (fun g => l.length - g) 0 ⟨Nat.zero_le _, fun j hj => absurd hj (by omega)⟩ (Sub.cons rfl (Sub.nil)) (fun i hg => ?_)
  obtain ⟨hg1, hg2⟩ := hg
  refine AWp.seq ?_
  refine AWp.seq ?_
  refine AWp.region ?_
  refine AList.c 4 rfl rfl rfl (OpJ.move rfl rfl) ?_
  refine AList.c 5 rfl rfl rfl (OpJ.move rfl rfl) ?_
  refine AList.c 6 rfl rfl rfl (OpJ.lenSlice rfl rfl sl23 rfl) ?_
  refine AList.c 7 rfl rfl rfl (OpJ.lss rfl rfl rfl) ?_
  refine AList.nil ?_
  refine AWp.cond _ rfl (fun hc0 => ?_) (fun hc0 => ?_)
  · skip
    have hk0 : i < l.length := by have h := of_decide_eq_true hc0; omega
    refine AWp.skip ?_
    refine AWp.seq ?_
    refine AWp.block ?_
    refine AWp.seq ?_
    refine AWp.region ?_
    refine AList.c 10 rfl rfl rfl (OpJ.move rfl rfl) ?_
    refine AList.c 11 rfl rfl rfl (OpJ.move rfl rfl) ?_
    refine AList.c 12 rfl rfl rfl (OpJ.indexG (g := ld l) (fun _ h => ld_get h) rfl rfl rfl sl23 el23 rfl (fun _ => rfl) (by decide) hk0) ?_
    refine AList.c 13 rfl rfl rfl (OpJ.load rfl rfl ty33 rfl) ?_
    refine AList.c 14 rfl rfl rfl (OpJ.callP (rleads_ok (ld l i) (hs _ (ld_mem hk0))) rfl rfl rfl rfl rf21) ?_
    refine AList.c 15 rfl rfl rfl (OpJ.not_ rfl rfl) ?_
    refine AList.nil ?_
    refine AWp.cond _ rfl (fun hc1 => ?_) (fun hc1 => ?_)
    · skip
      have hst : ldB (ld l i) = false := by simpa using hc1
      refine AWp.seq ?_
      refine AWp.region ?_
      refine AList.c 2 rfl rfl rfl (OpJ.assign rfl rfl) ?_
      refine AList.nil ?_
      refine AWp.ret ?_
      refine Fin.oneE rfl rfl ?_
      rw [all_false (ld_mem hk0) hst]
    · skip
      have hst : ldB (ld l i) = true := by simpa using hc1
      refine AWp.skip ?_
      refine AWp.region ?_
      refine AList.c 8 rfl rfl rfl (OpJ.move rfl rfl) ?_
      refine AList.c 9 rfl rfl rfl (OpJ.add rfl rfl rfl (i64ok ?_)) ?_
      · omega
      refine AList.c 3 rfl rfl rfl (OpJ.assign rfl rfl) ?_
      refine AList.nil ?_
      refine ⟨i + 1, ?_, ?_, ?_⟩
      · refine ⟨by omega, fun j hj => ?_⟩
        rcases Nat.lt_succ_iff_lt_or_eq.1 hj with h1 | rfl
        · exact hg2 j h1
        · exact hst
      · omega
      exact To.done [] rfl (by repeat (first | exact Sub.nil | refine Sub.cons rfl ?_)) rfl
  · skip
    obtain rfl : i = l.length := by have h := of_decide_eq_false hc0; omega
    refine AWp.exit ?_
    refine AWp.seq ?_
    refine AWp.region ?_
    refine AList.c 2 rfl rfl rfl (OpJ.assign rfl rfl) ?_
    refine AList.nil ?_
    refine AWp.ret ?_
    refine Fin.oneE rfl rfl ?_
    rw [List.all_eq_true.2 (fun x hx => by obtain ⟨j, hj, rfl⟩ := List.getElem_of_mem hx; rw [ld_get hj]; exact hg2 j hj)]
theorem up_ok (t u : Int) (ht : 0 ≤ t) (ht2 : t ≤ 1000000000000000) (hu : 1 ≤ u) (hu2 : u ≤ 1000000000000000) : Pure Tryz.prog 174 [.agg [.int .i64 t, .int .i64 u]] (.int .i64 (upI t u)) := by
  have q := divB (a := t + u - 1) (b := u) (by omega) hu
  refine Pure.start (N := 12) Tryz.func174 rfl rfl (Nat.le_of_ble_eq_true rfl) ?_
  refine AWp.seq ?_
  refine AWp.region ?_
  refine AList.c 1 rfl rfl rfl (OpJ.boxImm rfl rfl rfl) ?_
  refine AList.c 2 rfl rfl rfl (OpJ.assign rfl rfl) ?_
  refine AList.nil ?_
  refine AWp.seq ?_
  refine AWp.region ?_
  refine AList.c 3 rfl rfl rfl (OpJ.fieldAddr rfl rfl fd255_0 rfl) ?_
  refine AList.c 4 rfl rfl rfl (OpJ.load rfl rfl ty3 rfl) ?_
  refine AList.c 5 rfl rfl rfl (OpJ.fieldAddr rfl rfl fd255_1 rfl) ?_
  refine AList.c 6 rfl rfl rfl (OpJ.load rfl rfl ty3 rfl) ?_
  refine AList.c 7 rfl rfl rfl (OpJ.add rfl rfl rfl (i64ok ?_)) ?_
  · omega
  refine AList.c 8 rfl rfl rfl (OpJ.sub_ rfl rfl rfl (i64ok ?_)) ?_
  · omega
  refine AList.c 9 rfl rfl rfl (OpJ.fieldAddr rfl rfl fd255_1 rfl) ?_
  refine AList.c 10 rfl rfl rfl (OpJ.load rfl rfl ty3 rfl) ?_
  refine AList.c 11 rfl rfl rfl (OpJ.quo (m := (t + u - 1) / u) rfl rfl rfl (by omega) ((i64ok (by rw [q.1]; omega)).trans q.1)) ?_
  refine AList.c 2 rfl rfl rfl (OpJ.assign rfl rfl) ?_
  refine AList.nil ?_
  refine AWp.ret ?_
  exact Fin.one rfl (rfl)
theorem down_ok (t u : Int) (ht : 0 ≤ t) (ht2 : t ≤ 1000000000000000) (hu : 1 ≤ u) (hu2 : u ≤ 1000000000000000) : Pure Tryz.prog 175 [.agg [.int .i64 t, .int .i64 u]] (.int .i64 (dnI t u)) := by
  have q := divB (a := t) (b := u) (by omega) hu
  refine Pure.start (N := 8) Tryz.func175 rfl rfl (Nat.le_of_ble_eq_true rfl) ?_
  refine AWp.seq ?_
  refine AWp.region ?_
  refine AList.c 1 rfl rfl rfl (OpJ.boxImm rfl rfl rfl) ?_
  refine AList.c 2 rfl rfl rfl (OpJ.assign rfl rfl) ?_
  refine AList.nil ?_
  refine AWp.seq ?_
  refine AWp.region ?_
  refine AList.c 3 rfl rfl rfl (OpJ.fieldAddr rfl rfl fd255_0 rfl) ?_
  refine AList.c 4 rfl rfl rfl (OpJ.load rfl rfl ty3 rfl) ?_
  refine AList.c 5 rfl rfl rfl (OpJ.fieldAddr rfl rfl fd255_1 rfl) ?_
  refine AList.c 6 rfl rfl rfl (OpJ.load rfl rfl ty3 rfl) ?_
  refine AList.c 7 rfl rfl rfl (OpJ.quo (m := t / u) rfl rfl rfl (by omega) ((i64ok (by rw [q.1]; omega)).trans q.1)) ?_
  refine AList.c 2 rfl rfl rfl (OpJ.assign rfl rfl) ?_
  refine AList.nil ?_
  refine AWp.ret ?_
  exact Fin.one rfl (rfl)
theorem reached_ok (c : List Tnt) (g cl : Int) (hc : okC c) (hg : 1 ≤ g) (hg2 : g ≤ 1073741824) (hl : 0 ≤ cl) (hl2 : cl ≤ 1073741824) (i : Nat) (hi : i + 1 < c.length) : Pure Tryz.prog 176 [(.agg [curV c, .int .i64 g, .int .i64 cl]), .int .i64 (i : Int)] (.bool (decide (1000 * g ≤ (tn c (i + 1)).r * (g + cl)))) := by
  have h8 := hc.1
  have hr := okC_r hc hi
  have hm := mulB (a := (tn c (i + 1)).r) (b := g + cl) (A := 1000) (B := 2147483648) hr.1 hr.2 (by omega) (by omega)
  refine Pure.start (N := 22) Tryz.func176 rfl rfl (Nat.le_of_ble_eq_true rfl) ?_
  refine AWp.seq ?_
  refine AWp.region ?_
  refine AList.c 2 rfl rfl rfl (OpJ.boxImm rfl rfl rfl) ?_
  refine AList.c 4 rfl rfl rfl (OpJ.assign rfl rfl) ?_
  refine AList.nil ?_
  refine AWp.seq ?_
  refine AWp.regionDraw 18 mixed (by kernel_rfl) (by decide) ?_
  refine AQuiet.cons 5 rfl rfl rfl (OpJ.fieldAddr rfl rfl fd257_0 rfl) ?_
  refine AQuiet.cons 6 rfl rfl rfl (OpJ.load rfl rfl ty22 rfl) ?_
  refine AQuiet.cons 7 rfl rfl rfl (OpJ.move rfl rfl) ?_
  refine AQuiet.cons 8 rfl rfl rfl (OpJ.add (m := ((i + 1 : Nat) : Int)) rfl rfl rfl ((i64ok ?_).trans ?_)) ?_
  · omega
  · omega
  refine AQuiet.cons 9 rfl rfl rfl (OpJ.indexG (g := tn c) (fun _ h => tn_get h) rfl rfl rfl sl22 el22 rfl (fun _ => rfl) (by decide) hi) ?_
  refine AQuiet.cons 10 rfl rfl rfl (OpJ.fieldAddr rfl rfl fd159_0 rfl) ?_
  refine AQuiet.cons 11 rfl rfl rfl (OpJ.load rfl rfl ty3 rfl) ?_
  refine AQuiet.cons 12 rfl rfl rfl (OpJ.fieldAddr rfl rfl fd257_1 rfl) ?_
  refine AQuiet.cons 13 rfl rfl rfl (OpJ.load rfl rfl ty3 rfl) ?_
  refine AQuiet.cons 14 rfl rfl rfl (OpJ.fieldAddr rfl rfl fd257_2 rfl) ?_
  refine AQuiet.cons 15 rfl rfl rfl (OpJ.load rfl rfl ty3 rfl) ?_
  refine AQuiet.cons 16 rfl rfl rfl (OpJ.add rfl rfl rfl (i64ok ?_)) ?_
  · omega
  refine AQuiet.cons 17 rfl rfl rfl (OpJ.mul rfl rfl rfl (i64ok ?_)) ?_
  · omega
  refine AQuiet.cons 18 rfl rfl rfl (OpJ.fieldAddr rfl rfl fd257_1 rfl) ?_
  refine AQuiet.cons 19 rfl rfl rfl (OpJ.load rfl rfl ty3 rfl) ?_
  refine AQuiet.cons 20 rfl rfl rfl (OpJ.mul rfl rfl rfl (i64ok ?_)) ?_
  · omega
  refine AQuiet.cons 21 rfl rfl rfl (OpJ.geq rfl rfl rfl) ?_
  refine AQuiet.cons 4 rfl rfl rfl (OpJ.assign rfl rfl) ?_
  refine AQuiet.nil ?_
  refine AList.nil ?_
  refine AWp.ret ?_
  exact Fin.one rfl (rfl)
theorem search_ok (n r : Nat) (fn : Fn) (fi ca : List PV) (p : Nat → Bool) (hn : n ≤ 140737488355328) (hr : r ≤ n) (h1 : ∀ i, i < r → p i = false) (h2 : ∀ i, r ≤ i → i < n → p i = true) (hf : ∀ i, i < n → FPure Tryz.prog (.func fn fi ca) [.int .i64 ((i : Nat) : Int)] (.bool (p i))) : Pure Tryz.prog 85 [.int .i64 (n : Int), .func fn fi ca] (.int .i64 (r : Int)) := by
  refine Pure.start (N := 26) Tryz.func85 rfl rfl (Nat.le_of_ble_eq_true rfl) ?_
  refine AWp.seq ?_
  refine AWp.region ?_
  refine AList.c 4 rfl rfl rfl (OpJ.assign rfl rfl) ?_
  refine AList.nil ?_
  refine AWp.seq ?_
  refine AWp.region ?_
  refine AList.c 8 rfl rfl rfl (OpJ.move rfl rfl) ?_
  refine AList.c 5 rfl rfl rfl (OpJ.assign rfl rfl) ?_
  refine AList.c 6 rfl rfl rfl (OpJ.assign rfl rfl) ?_
  refine AList.nil ?_
  refine AWp.seq ?_
  refine AWp.block ?_
  refine AWp.loopK [5, 6, 7, 9, 10, 11, 12, 13, 14, 15, 16, 17, 18, 19, 20, 21, 22, 23, 24] (fun g => [(5, .p (.int .i64 ((g.1 : Nat) : Int))), (6, .p (.int .i64 ((g.2 : Nat) : Int)))]) (fun g => g.1 ≤ r ∧ r ≤ g.2 ∧ g.2 ≤ n) (fun g => g.2 - g.1) (0, n) ⟨Nat.zero_le _, hr, Nat.le_refl _⟩ (Sub.cons rfl (Sub.cons rfl (Sub.nil))) (fun g hg => ?_)
  obtain ⟨i, j⟩ := g
  obtain ⟨hi, hj, hjn⟩ := hg
  dsimp only at hi hj hjn ⊢
  refine AWp.seq ?_
  refine AWp.seq ?_
  refine AWp.region ?_
  refine AList.c 9 rfl rfl rfl (OpJ.move rfl rfl) ?_
  refine AList.c 10 rfl rfl rfl (OpJ.move rfl rfl) ?_
  refine AList.c 11 rfl rfl rfl (OpJ.lss rfl rfl rfl) ?_
  refine AList.nil ?_
  refine AWp.cond _ rfl (fun hc0 => ?_) (fun hc0 => ?_)
  · skip
    have hij : i < j := by simp at hc0; omega
    have hf0 := hf ((i + j) / 2) (by omega)
    refine AWp.skip ?_
    refine AWp.block ?_
    refine AWp.seq ?_
    refine AWp.region ?_
    refine AList.c 12 rfl rfl rfl (OpJ.move rfl rfl) ?_
    refine AList.c 13 rfl rfl rfl (OpJ.move rfl rfl) ?_
    refine AList.c 14 rfl rfl rfl (OpJ.add rfl rfl rfl (i64ok ?_)) ?_
    · omega
    refine AList.c 15 rfl rfl rfl (OpJ.convInt rfl rfl (by rw [un3]; rfl) un176 (u64ok ?_)) ?_
    · omega
    refine AList.c 16 rfl rfl rfl (OpJ.shr (m := (((i + j) / 2 : Nat) : Int)) rfl rfl rfl (by decide) ?_) ?_
    · refine shr1.trans ?_; omega
    refine AList.c 17 rfl rfl rfl (OpJ.convInt rfl rfl (by rw [un176]; rfl) un3 (i64ok ?_)) ?_
    · omega
    refine AList.c 7 rfl rfl rfl (OpJ.assign rfl rfl) ?_
    refine AList.nil ?_
    refine AWp.seq ?_
    refine AWp.region ?_
    refine AList.c 18 rfl rfl rfl (OpJ.move rfl rfl) ?_
    refine AList.c 19 rfl rfl rfl (OpJ.move rfl rfl) ?_
    refine AList.c 20 rfl rfl rfl (OpJ.callF (hf0) rfl rfl rfl) ?_
    refine AList.c 21 rfl rfl rfl (OpJ.not_ rfl rfl) ?_
    refine AList.nil ?_
    refine AWp.cond _ rfl (fun hc1 => ?_) (fun hc1 => ?_)
    · skip
      have q1 : p ((i + j) / 2) = false := by simpa using hc1
      have q2 : (i + j) / 2 + 1 ≤ r := by rcases Nat.lt_or_ge ((i + j) / 2) r with h | h; { omega }; { have := h2 _ h (by omega); rw [q1] at this; cases this }
      refine AWp.region ?_
      refine AList.c 22 rfl rfl rfl (OpJ.move rfl rfl) ?_
      refine AList.c 23 rfl rfl rfl (OpJ.add rfl rfl rfl (i64ok ?_)) ?_
      · omega
      refine AList.c 5 rfl rfl rfl (OpJ.assign rfl rfl) ?_
      refine AList.nil ?_
      refine ⟨((i + j) / 2 + 1, j), ?_, ?_, ?_⟩
      · exact ⟨q2, hj, hjn⟩
      · dsimp only; omega
      exact To.done [] rfl (by repeat (first | exact Sub.nil | refine Sub.cons rfl ?_)) rfl
    · skip
      have q1 : p ((i + j) / 2) = true := by simpa using hc1
      have q2 : r ≤ (i + j) / 2 := by rcases Nat.lt_or_ge ((i + j) / 2) r with h | h; { have := h1 _ h; rw [q1] at this; cases this }; { omega }
      refine AWp.region ?_
      refine AList.c 24 rfl rfl rfl (OpJ.move rfl rfl) ?_
      refine AList.c 6 rfl rfl rfl (OpJ.assign rfl rfl) ?_
      refine AList.nil ?_
      refine ⟨(i, (i + j) / 2), ?_, ?_, ?_⟩
      · exact ⟨hi, q2, by dsimp only; omega⟩
      · dsimp only; omega
      exact To.done [] rfl (by repeat (first | exact Sub.nil | refine Sub.cons rfl ?_)) rfl
  · skip
    obtain rfl : i = r := by simp at hc0; omega
    refine AWp.exit ?_
    refine AWp.seq ?_
    refine AWp.region ?_
    refine AList.c 25 rfl rfl rfl (OpJ.move rfl rfl) ?_
    refine AList.c 4 rfl rfl rfl (OpJ.assign rfl rfl) ?_
    refine AList.nil ?_
    refine AWp.ret ?_
    refine Fin.oneE rfl rfl ?_
    rfl
theorem black_ok (c : List Tnt) (g cl : Int) (hc : okC c) (hg : 1 ≤ g) (hg2 : g ≤ 1073741824) (hl : 0 ≤ cl) (hl2 : cl ≤ 1073741824) : Pure Tryz.prog 173 [(.agg [curV c, .int .i64 g, .int .i64 cl])] (.agg [.int .i64 (topI c g cl), .int .i64 (undI c g cl)]) := by
  have h8 := hc.1
  have q := seg_ok hc hg hl
  obtain ⟨i, hi⟩ : ∃ i, i = seg c g (g + cl) := ⟨_, rfl⟩
  have hi1 : i + 1 < c.length := hi ▸ q.lt
  have w := frac_walk hc hg hg2 hl hl2 hi
  have w1 := w.p1
  have w2 := w.p2
  have w3 := w.p3
  have w4 := w.p4
  have w5 := w.p5
  have w6 := w.p6
  have w7 := w.p7
  have w8 := w.r
  have w9 := w.b
  refine Pure.start (N := 63) Tryz.func173 rfl rfl (Nat.le_of_ble_eq_true rfl) ?_
  refine AWp.seq ?_
  refine AWp.region ?_
  refine AList.c 1 rfl rfl rfl (OpJ.boxImm rfl rfl rfl) ?_
  refine AList.c 2 rfl rfl rfl (OpJ.allocOwn rfl zr255 rfl) ?_
  refine AList.nil ?_
  refine AWp.seq ?_
  refine AWp.region ?_
  refine AList.c 9 rfl rfl rfl (OpJ.fieldAddr rfl rfl fd257_1 rfl) ?_
  refine AList.c 10 rfl rfl rfl (OpJ.load rfl rfl ty3 rfl) ?_
  refine AList.c 11 rfl rfl rfl (OpJ.fieldAddr rfl rfl fd257_2 rfl) ?_
  refine AList.c 12 rfl rfl rfl (OpJ.load rfl rfl ty3 rfl) ?_
  refine AList.c 13 rfl rfl rfl (OpJ.add rfl rfl rfl (i64ok ?_)) ?_
  · omega
  refine AList.c 3 rfl rfl rfl (OpJ.assign rfl rfl) ?_
  refine AList.nil ?_
  refine AWp.seq ?_
  refine AWp.region ?_
  refine AList.c 14 rfl rfl rfl (OpJ.load rfl rfl ty257 rfl) ?_
  refine AList.c 15 rfl rfl rfl (OpJ.makeFunc rfl rfl rfl) ?_
  refine AList.c 4 rfl rfl rfl (OpJ.assign rfl rfl) ?_
  refine AList.nil ?_
  refine AWp.seq ?_
  refine AWp.region ?_
  refine AList.c 16 rfl rfl rfl (OpJ.fieldAddr rfl rfl fd257_0 rfl) ?_
  refine AList.c 17 rfl rfl rfl (OpJ.load rfl rfl ty22 rfl) ?_
  refine AList.c 18 rfl rfl rfl (OpJ.lenSlice rfl rfl sl22 rfl) ?_
  refine AList.c 19 rfl rfl rfl (OpJ.sub_ (m := ((c.length - 2 : Nat) : Int)) rfl rfl rfl ((i64ok ?_).trans ?_)) ?_
  · omega
  · omega
  refine AList.c 20 rfl rfl rfl (OpJ.move rfl rfl) ?_
  refine AList.c 21 rfl rfl rfl (OpJ.callP (search_ok (c.length - 2) i (.func 176) [(.agg [curV c, .int .i64 g, .int .i64 cl])] [] (fun i => decide (1000 * g ≤ (tn c (i + 1)).r * (g + cl))) (by omega) (by omega) (fun j hj => decide_eq_false (by have := q.bef j (hi ▸ hj); omega)) (fun j hj hj2 => decide_eq_true (q.aft j (hi ▸ hj) (by omega))) (fun j hj => ⟨176, [(.agg [curV c, .int .i64 g, .int .i64 cl]), .int .i64 (j : Int)], rfl, rf176, reached_ok c g cl hc hg hg2 hl hl2 j (by omega)⟩)) rfl rfl rfl rfl rf85) ?_
  refine AList.c 5 rfl rfl rfl (OpJ.assign rfl rfl) ?_
  refine AList.nil ?_
  refine AWp.seq ?_
  refine AWp.regionDrawG 14 2 [1, 2] [([], false), ([], false), ([], false), ([], false), ([], false), ([], false), ([], false), ([], false), ([], false), ([], false), ([], false), ([1], true), ([2], true), ([1], true)] mixed (by kernel_rfl) (by decide) (by kernel_rfl) rfl rfl ?_
  refine AQG.cons 22 rfl rfl rfl (fun _ => (OpJ.fieldAddr rfl rfl fd257_0 rfl)) rfl ?_
  refine AQG.cons 23 rfl rfl rfl (fun _ => (OpJ.load rfl rfl ty22 rfl)) rfl ?_
  refine AQG.cons 24 rfl rfl rfl (fun _ => (OpJ.move rfl rfl)) rfl ?_
  refine AQG.cons 25 rfl rfl rfl (fun _ => (OpJ.indexG (g := tn c) (fun _ h => tn_get h) rfl rfl rfl sl22 el22 rfl (fun _ => rfl) (by decide) (by omega))) rfl ?_
  refine AQG.cons 26 rfl rfl rfl (fun _ => (OpJ.load rfl rfl ty159 rfl)) rfl ?_
  refine AQG.cons 27 rfl rfl rfl (fun _ => (OpJ.fieldAddr rfl rfl fd257_0 rfl)) rfl ?_
  refine AQG.cons 28 rfl rfl rfl (fun _ => (OpJ.load rfl rfl ty22 rfl)) rfl ?_
  refine AQG.cons 29 rfl rfl rfl (fun _ => (OpJ.move rfl rfl)) rfl ?_
  refine AQG.cons 30 rfl rfl rfl (fun _ => (OpJ.add (m := ((i + 1 : Nat) : Int)) rfl rfl rfl ((i64ok ?_).trans ?_))) rfl ?_
  · omega
  · omega
  refine AQG.cons 31 rfl rfl rfl (fun _ => (OpJ.indexG (g := tn c) (fun _ h => tn_get h) rfl rfl rfl sl22 el22 rfl (fun _ => rfl) (by decide) hi1)) rfl ?_
  refine AQG.cons 32 rfl rfl rfl (fun _ => (OpJ.load rfl rfl ty159 rfl)) rfl ?_
  refine AQG.lay (v0 := .ptr 3 0) 6 1 rfl rfl rfl rfl rfl rfl rfl rfl (fun _ => (OpJ.allocOwn rfl zr159 rfl)) rfl rfl rfl ?_
  refine AQG.lay (v0 := .ptr 3 0) 7 2 rfl rfl rfl rfl rfl rfl rfl rfl (fun _ => (OpJ.allocOwn rfl zr159 rfl)) rfl rfl rfl ?_
  refine AQG.put 1 rfl rfl rfl rfl (fun _ => (OpJ.store rfl rfl rfl rfl rfl ty159 rfl rfl)) rfl rfl ?_
  refine AQG.nil ?_
  refine AList.c0 rfl rfl (OpJ.store rfl rfl rfl rfl rfl ty159 rfl rfl) ?_
  refine AList.nil ?_
  refine AWp.seq ?_
  refine AWp.region ?_
  refine AList.c 33 rfl rfl rfl (OpJ.fieldAddr rfl rfl fd159_0 rfl) ?_
  refine AList.c 34 rfl rfl rfl (OpJ.load rfl rfl ty3 rfl) ?_
  refine AList.c 35 rfl rfl rfl (OpJ.fieldAddr rfl rfl fd159_0 rfl) ?_
  refine AList.c 36 rfl rfl rfl (OpJ.load rfl rfl ty3 rfl) ?_
  refine AList.c 37 rfl rfl rfl (OpJ.sub_ rfl rfl rfl (i64ok ?_)) ?_
  · omega
  refine AList.c 8 rfl rfl rfl (OpJ.assign rfl rfl) ?_
  refine AList.nil ?_
  refine AWp.seq ?_
  refine AWp.region ?_
  refine AList.c 38 rfl rfl rfl (OpJ.fieldAddr rfl rfl fd159_1 rfl) ?_
  refine AList.c 39 rfl rfl rfl (OpJ.load rfl rfl ty3 rfl) ?_
  refine AList.c 40 rfl rfl rfl (OpJ.move rfl rfl) ?_
  refine AList.c 41 rfl rfl rfl (OpJ.mul rfl rfl rfl (i64ok ?_)) ?_
  · omega
  refine AList.c 42 rfl rfl rfl (OpJ.move rfl rfl) ?_
  refine AList.c 43 rfl rfl rfl (OpJ.mul rfl rfl rfl (i64ok ?_)) ?_
  · omega
  refine AList.c 44 rfl rfl rfl (OpJ.fieldAddr rfl rfl fd159_1 rfl) ?_
  refine AList.c 45 rfl rfl rfl (OpJ.load rfl rfl ty3 rfl) ?_
  refine AList.c 46 rfl rfl rfl (OpJ.fieldAddr rfl rfl fd159_1 rfl) ?_
  refine AList.c 47 rfl rfl rfl (OpJ.load rfl rfl ty3 rfl) ?_
  refine AList.c 48 rfl rfl rfl (OpJ.sub_ rfl rfl rfl (i64ok ?_)) ?_
  · omega
  refine AList.c 49 rfl rfl rfl (OpJ.fieldAddr rfl rfl fd257_1 rfl) ?_
  refine AList.c 50 rfl rfl rfl (OpJ.load rfl rfl ty3 rfl) ?_
  refine AList.c 51 rfl rfl rfl (OpJ.mul rfl rfl rfl (i64ok ?_)) ?_
  · omega
  refine AList.c 52 rfl rfl rfl (OpJ.fieldAddr rfl rfl fd159_0 rfl) ?_
  refine AList.c 53 rfl rfl rfl (OpJ.load rfl rfl ty3 rfl) ?_
  refine AList.c 54 rfl rfl rfl (OpJ.move rfl rfl) ?_
  refine AList.c 55 rfl rfl rfl (OpJ.mul rfl rfl rfl (i64ok ?_)) ?_
  · omega
  refine AList.c 56 rfl rfl rfl (OpJ.sub_ rfl rfl rfl (i64ok ?_)) ?_
  · omega
  refine AList.c 57 rfl rfl rfl (OpJ.mul rfl rfl rfl (i64ok ?_)) ?_
  · omega
  refine AList.c 58 rfl rfl rfl (OpJ.add rfl rfl rfl (i64ok ?_)) ?_
  · omega
  refine AList.c 59 rfl rfl rfl (OpJ.move rfl rfl) ?_
  refine AList.c 60 rfl rfl rfl (OpJ.move rfl rfl) ?_
  refine AList.c 61 rfl rfl rfl (OpJ.mul rfl rfl rfl (i64ok ?_)) ?_
  · omega
  refine AList.c 62 rfl rfl rfl (OpJ.build rfl bd255 rfl rfl) ?_
  refine AList.c0 rfl rfl (OpJ.store rfl rfl rfl rfl rfl ty255 rfl rfl) ?_
  refine AList.nil ?_
  refine AWp.ret ?_
  subst hi
  exact Fin.one rfl (⟨_, _, _, rfl, ty255, rfl⟩)
end Go.Proofs.YtbnemnhmejmeeaaGreatDoor.Sh
end

section
set_option linter.unusedVariables false
set_option maxRecDepth 100000
set_option maxHeartbeats 4000000
set_option linter.unusedSimpArgs false
namespace Go.Proofs.YtbnemnhmejmeeaaGreatDoor.Sh
open Go.AF
theorem recB_ok (c : List Tnt) (l : Lds) (hc : okC c) (hl : OkL l) : Pure Tryz.prog 172 [.agg (curV c :: l.cells)] (spV (recB c l)) := by
  have lg := hl.g
  have lc := hl.c
  have lt := hl.t
  have l6 := hl.n
  have f1 := frac_ok hc (g := l.glo) (cl := l.chi) (by omega) (by omega) (by omega) (by omega)
  have f2 := frac_ok hc (g := l.ghi) (cl := l.clo) (by omega) (by omega) (by omega) (by omega)
  have fu1 := f1.u
  have fu2 := f2.u
  have ft1 := f1.t
  have ft2 := f2.t
  have r1 := rec_ok hc (g := l.glo) (cl := l.chi) (by omega) (by omega) (by omega) (by omega)
  have r2 := rec_ok hc (g := l.ghi) (cl := l.clo) (by omega) (by omega) (by omega) (by omega)
  have u1 := r1.u
  have d2 := r2.d
  refine Pure.start (N := 42) Tryz.func172 rfl rfl (Nat.le_of_ble_eq_true rfl) ?_
  refine AWp.seq ?_
  refine AWp.region ?_
  refine AList.c 1 rfl rfl rfl (OpJ.boxImm rfl rfl rfl) ?_
  refine AList.c 2 rfl rfl rfl (OpJ.allocOwn rfl zr30 rfl) ?_
  refine AList.nil ?_
  refine AWp.seq ?_
  refine AWp.regionDrawG 26 2 [1, 2] [([], false), ([], false), ([], false), ([], false), ([], false), ([], false), ([], false), ([], false), ([], false), ([], false), ([], false), ([], false), ([], false), ([], false), ([], false), ([], false), ([], false), ([], false), ([], false), ([], false), ([], false), ([], false), ([], false), ([], false), ([1], true), ([2], true)] mixed (by kernel_rfl) (by decide) (by kernel_rfl) rfl rfl ?_
  refine AQG.cons 5 rfl rfl rfl (fun _ => (OpJ.fieldAddr rfl rfl fd179_0 rfl)) rfl ?_
  refine AQG.cons 6 rfl rfl rfl (fun _ => (OpJ.load rfl rfl ty22 rfl)) rfl ?_
  refine AQG.cons 7 rfl rfl rfl (fun _ => (OpJ.fieldAddr rfl rfl fd179_1 rfl)) rfl ?_
  refine AQG.cons 8 rfl rfl rfl (fun _ => (OpJ.fieldAddr rfl rfl fd33_0 rfl)) rfl ?_
  refine AQG.cons 9 rfl rfl rfl (fun _ => (OpJ.fieldAddr rfl rfl fd30_0 rfl)) rfl ?_
  refine AQG.cons 10 rfl rfl rfl (fun _ => (OpJ.load rfl rfl ty3 rfl)) rfl ?_
  refine AQG.cons 11 rfl rfl rfl (fun _ => (OpJ.fieldAddr rfl rfl fd179_1 rfl)) rfl ?_
  refine AQG.cons 12 rfl rfl rfl (fun _ => (OpJ.fieldAddr rfl rfl fd33_1 rfl)) rfl ?_
  refine AQG.cons 13 rfl rfl rfl (fun _ => (OpJ.fieldAddr rfl rfl fd30_1 rfl)) rfl ?_
  refine AQG.cons 14 rfl rfl rfl (fun _ => (OpJ.load rfl rfl ty3 rfl)) rfl ?_
  refine AQG.cons 15 rfl rfl rfl (fun _ => (OpJ.build rfl bd257 rfl rfl)) rfl ?_
  refine AQG.cons 16 rfl rfl rfl (fun _ => (OpJ.callP (black_ok c l.glo l.chi hc (by omega) (by omega) (by omega) (by omega)) rfl rfl rfl rfl rf173)) rfl ?_
  refine AQG.cons 17 rfl rfl rfl (fun _ => (OpJ.fieldAddr rfl rfl fd179_0 rfl)) rfl ?_
  refine AQG.cons 18 rfl rfl rfl (fun _ => (OpJ.load rfl rfl ty22 rfl)) rfl ?_
  refine AQG.cons 19 rfl rfl rfl (fun _ => (OpJ.fieldAddr rfl rfl fd179_1 rfl)) rfl ?_
  refine AQG.cons 20 rfl rfl rfl (fun _ => (OpJ.fieldAddr rfl rfl fd33_0 rfl)) rfl ?_
  refine AQG.cons 21 rfl rfl rfl (fun _ => (OpJ.fieldAddr rfl rfl fd30_1 rfl)) rfl ?_
  refine AQG.cons 22 rfl rfl rfl (fun _ => (OpJ.load rfl rfl ty3 rfl)) rfl ?_
  refine AQG.cons 23 rfl rfl rfl (fun _ => (OpJ.fieldAddr rfl rfl fd179_1 rfl)) rfl ?_
  refine AQG.cons 24 rfl rfl rfl (fun _ => (OpJ.fieldAddr rfl rfl fd33_1 rfl)) rfl ?_
  refine AQG.cons 25 rfl rfl rfl (fun _ => (OpJ.fieldAddr rfl rfl fd30_0 rfl)) rfl ?_
  refine AQG.cons 26 rfl rfl rfl (fun _ => (OpJ.load rfl rfl ty3 rfl)) rfl ?_
  refine AQG.cons 27 rfl rfl rfl (fun _ => (OpJ.build rfl bd257 rfl rfl)) rfl ?_
  refine AQG.cons 28 rfl rfl rfl (fun _ => (OpJ.callP (black_ok c l.ghi l.clo hc (by omega) (by omega) (by omega) (by omega)) rfl rfl rfl rfl rf173)) rfl ?_
  refine AQG.lay (v0 := .ptr 3 0) 3 1 rfl rfl rfl rfl rfl rfl rfl rfl (fun _ => (OpJ.allocOwn rfl zr255 rfl)) rfl rfl rfl ?_
  refine AQG.lay (v0 := .ptr 3 0) 4 2 rfl rfl rfl rfl rfl rfl rfl rfl (fun _ => (OpJ.allocOwn rfl zr255 rfl)) rfl rfl rfl ?_
  refine AQG.nil ?_
  refine AList.c0 rfl rfl (OpJ.store rfl rfl rfl rfl rfl ty255 rfl rfl) ?_
  refine AList.c0 rfl rfl (OpJ.store rfl rfl rfl rfl rfl ty255 rfl rfl) ?_
  refine AList.nil ?_
  refine AWp.seq ?_
  refine AWp.regionDraw 13 mixed (by kernel_rfl) (by decide) ?_
  refine AQuiet.cons 29 rfl rfl rfl (OpJ.load rfl rfl ty255 rfl) ?_
  refine AQuiet.cons 30 rfl rfl rfl (OpJ.callP (up_ok _ _ (by omega) (by omega) (by omega) (by omega)) rfl rfl rfl rfl rf174) ?_
  refine AQuiet.cons 31 rfl rfl rfl (OpJ.fieldAddr rfl rfl fd179_1 rfl) ?_
  refine AQuiet.cons 32 rfl rfl rfl (OpJ.fieldAddr rfl rfl fd33_2 rfl) ?_
  refine AQuiet.cons 33 rfl rfl rfl (OpJ.load rfl rfl ty3 rfl) ?_
  refine AQuiet.cons 34 rfl rfl rfl (OpJ.sub_ rfl rfl rfl (i64ok ?_)) ?_
  · omega
  refine AQuiet.cons 35 rfl rfl rfl (OpJ.load rfl rfl ty255 rfl) ?_
  refine AQuiet.cons 36 rfl rfl rfl (OpJ.callP (down_ok _ _ (by omega) (by omega) (by omega) (by omega)) rfl rfl rfl rfl rf175) ?_
  refine AQuiet.cons 37 rfl rfl rfl (OpJ.fieldAddr rfl rfl fd179_1 rfl) ?_
  refine AQuiet.cons 38 rfl rfl rfl (OpJ.fieldAddr rfl rfl fd33_2 rfl) ?_
  refine AQuiet.cons 39 rfl rfl rfl (OpJ.load rfl rfl ty3 rfl) ?_
  refine AQuiet.cons 40 rfl rfl rfl (OpJ.add rfl rfl rfl (i64ok ?_)) ?_
  · omega
  refine AQuiet.cons 41 rfl rfl rfl (OpJ.build rfl bd30 rfl rfl) ?_
  refine AQuiet.nil ?_
  refine AList.c0 rfl rfl (OpJ.store rfl rfl rfl rfl rfl ty30 rfl rfl) ?_
  refine AList.nil ?_
  refine AWp.ret ?_
  exact Fin.one rfl (⟨_, _, _, rfl, ty30, rfl⟩)
theorem stkB_ok (s : Stk) (hs : okS s) : Pure Tryz.prog 177 [.agg s.cells] (spV (stkBd s)) := by
  unfold okS at hs
  refine Pure.start (N := 26) Tryz.func177 rfl rfl (Nat.le_of_ble_eq_true rfl) ?_
  refine AWp.seq ?_
  refine AWp.region ?_
  refine AList.c 1 rfl rfl rfl (OpJ.boxImm rfl rfl rfl) ?_
  refine AList.c 2 rfl rfl rfl (OpJ.allocOwn rfl zr30 rfl) ?_
  refine AList.nil ?_
  refine AWp.seq ?_
  refine AWp.regionDraw 23 mixed (by kernel_rfl) (by decide) ?_
  refine AQuiet.cons 3 rfl rfl rfl (OpJ.fieldAddr rfl rfl fd182_0 rfl) ?_
  refine AQuiet.cons 4 rfl rfl rfl (OpJ.fieldAddr rfl rfl fd82_0 rfl) ?_
  refine AQuiet.cons 5 rfl rfl rfl (OpJ.fieldAddr rfl rfl fd30_0 rfl) ?_
  refine AQuiet.cons 6 rfl rfl rfl (OpJ.load rfl rfl ty3 rfl) ?_
  refine AQuiet.cons 7 rfl rfl rfl (OpJ.mul rfl rfl rfl (i64ok ?_)) ?_
  · omega
  refine AQuiet.cons 8 rfl rfl rfl (OpJ.fieldAddr rfl rfl fd182_0 rfl) ?_
  refine AQuiet.cons 9 rfl rfl rfl (OpJ.fieldAddr rfl rfl fd82_1 rfl) ?_
  refine AQuiet.cons 10 rfl rfl rfl (OpJ.fieldAddr rfl rfl fd30_1 rfl) ?_
  refine AQuiet.cons 11 rfl rfl rfl (OpJ.load rfl rfl ty3 rfl) ?_
  refine AQuiet.cons 12 rfl rfl rfl (OpJ.build rfl bd255 rfl rfl) ?_
  refine AQuiet.cons 13 rfl rfl rfl (OpJ.callP (up_ok (1000 * s.rlo) s.phi (by omega) (by omega) (by omega) (by omega)) rfl rfl rfl rfl rf174) ?_
  refine AQuiet.cons 14 rfl rfl rfl (OpJ.fieldAddr rfl rfl fd182_0 rfl) ?_
  refine AQuiet.cons 15 rfl rfl rfl (OpJ.fieldAddr rfl rfl fd82_0 rfl) ?_
  refine AQuiet.cons 16 rfl rfl rfl (OpJ.fieldAddr rfl rfl fd30_1 rfl) ?_
  refine AQuiet.cons 17 rfl rfl rfl (OpJ.load rfl rfl ty3 rfl) ?_
  refine AQuiet.cons 18 rfl rfl rfl (OpJ.mul rfl rfl rfl (i64ok ?_)) ?_
  · omega
  refine AQuiet.cons 19 rfl rfl rfl (OpJ.fieldAddr rfl rfl fd182_0 rfl) ?_
  refine AQuiet.cons 20 rfl rfl rfl (OpJ.fieldAddr rfl rfl fd82_1 rfl) ?_
  refine AQuiet.cons 21 rfl rfl rfl (OpJ.fieldAddr rfl rfl fd30_0 rfl) ?_
  refine AQuiet.cons 22 rfl rfl rfl (OpJ.load rfl rfl ty3 rfl) ?_
  refine AQuiet.cons 23 rfl rfl rfl (OpJ.build rfl bd255 rfl rfl) ?_
  refine AQuiet.cons 24 rfl rfl rfl (OpJ.callP (down_ok (1000 * s.rhi) s.plo (by omega) (by omega) (by omega) (by omega)) rfl rfl rfl rfl rf175) ?_
  refine AQuiet.cons 25 rfl rfl rfl (OpJ.build rfl bd30 rfl rfl) ?_
  refine AQuiet.nil ?_
  refine AList.c0 rfl rfl (OpJ.store rfl rfl rfl rfl rfl ty30 rfl rfl) ?_
  refine AList.nil ?_
  refine AWp.ret ?_
  exact Fin.one rfl (⟨_, _, _, rfl, ty30, rfl⟩)
theorem src_F (name : String) (h1 : mthI Tryz.prog 179 name = some 172) (h2 : mthI Tryz.prog 182 name = some 177) (c : List Tnt) (l : Lds) (hc : okC c) (hl : OkL l) (k : Nat) : FIface Tryz.prog name (srcV c l (srcAt l k)) [] (spV (srcB c l (srcAt l k))) := by
  cases h : srcAt l k with
  | none => exact ⟨179, _, 172, rfl, h1, rf172, recB_ok c l hc hl⟩
  | some s => exact ⟨182, _, 177, rfl, h2, rf177, stkB_ok s (hl.st s (srcAt_mem h))⟩
theorem blackOf_ok (c : List Tnt) (l : Lds) (hc : okC c) (hl : OkL l) : Pure Tryz.prog 79 [curV c, ldV l] (spV (blk c l)) := by
  have lg := hl.g
  have lc := hl.c
  have lt := hl.t
  have l6 := hl.n
  refine Pure.start (N := 53) Tryz.func79 rfl rfl (Nat.le_of_ble_eq_true rfl) ?_
  refine AWp.seq ?_
  refine AWp.region ?_
  refine AList.c 3 rfl rfl rfl (OpJ.boxImm rfl rfl rfl) ?_
  refine AList.c 4 rfl rfl rfl (OpJ.allocOwn rfl zr30 rfl) ?_
  refine AList.nil ?_
  refine AWp.seq ?_
  refine AWp.region ?_
  refine AList.c 12 rfl rfl rfl (OpJ.move rfl rfl) ?_
  refine AList.c 13 rfl rfl rfl (OpJ.load rfl rfl ty33 rfl) ?_
  refine AList.c 14 rfl rfl rfl (OpJ.build rfl bd179 rfl rfl) ?_
  refine AList.c 15 rfl rfl rfl (OpJ.makeIface rfl rfl con179) ?_
  refine AList.c 16 rfl rfl rfl (OpJ.buildOwn rfl slz180 (by decide) rfl rfl) ?_
  refine AList.c 5 rfl rfl rfl (OpJ.assign rfl rfl) ?_
  refine AList.nil ?_
  refine AWp.seq ?_
  refine AWp.seq ?_
  refine AWp.region ?_
  refine AList.c 17 rfl rfl rfl (OpJ.fieldAddr rfl rfl fd33_3 rfl) ?_
  refine AList.c 18 rfl rfl rfl (OpJ.load rfl rfl ty31 rfl) ?_
  refine AList.c 19 rfl rfl rfl (OpJ.lenSlice rfl rfl sl31 rfl) ?_
  refine AList.c 20 rfl rfl rfl (OpJ.move rfl rfl) ?_
  refine AList.nil ?_
  refine AWp.block ?_
  refine AWp.loopHL [4, 8, 10, 11, 18, 19, 31, 32, 33, 34, 35, 36, 37, 38, 39, 40, 41, 42, 43, 44, 45, 46, 47, 48, 49, 50, 51, 52] (fun g => [(20, .p (.int .i64 ((g : Nat) : Int))), (5, accV 1 (g + 1))]) (fun g => [.cells [.p (.int .i64 0), .p (.int .i64 0)] 30, accB (((srcL l g).flatMap (srcC c l)).map .p) 184 (g + 1)]) (fun g => g ≤ l.st.length) (fun g => l.st.length - g) 0 (Nat.zero_le _) (To.sub (Sub.chk (Sub.cons rfl (Sub.cons rfl (Sub.nil))))) (fun i hg => ?_)
  refine AWp.seq ?_
  refine AWp.region ?_
  refine AList.c 21 rfl rfl rfl (OpJ.lss rfl rfl rfl) ?_
  refine AList.nil ?_
  refine AWp.seq ?_
  refine AWp.cond _ rfl (fun hc0 => ?_) (fun hc0 => ?_)
  · skip
    have hk0 : i < l.st.length := by have h := of_decide_eq_true hc0; omega
    refine AWp.skip ?_
    refine AWp.seq ?_
    refine AWp.block ?_
    refine AWp.seq ?_
    refine AWp.region ?_
    refine AList.c 22 rfl rfl rfl (OpJ.indexG (g := stk l.st) (fun _ h => stk_get h) rfl rfl rfl sl31 el31 rfl (fun _ => rfl) (by decide) hk0) ?_
    refine AList.c 23 rfl rfl rfl (OpJ.load rfl rfl ty82 rfl) ?_
    refine AList.c 7 rfl rfl rfl (OpJ.allocOwn rfl zr82 rfl) ?_
    refine AList.c0 rfl rfl (OpJ.store rfl rfl rfl rfl rfl ty82 rfl rfl) ?_
    refine AList.nil ?_
    refine AWp.region ?_
    refine AList.c 24 rfl rfl rfl (OpJ.move rfl rfl) ?_
    refine AList.c 25 rfl rfl rfl (OpJ.load rfl rfl ty82 rfl) ?_
    refine AList.c 26 rfl rfl rfl (OpJ.build rfl bd182 rfl rfl) ?_
    refine AList.c 27 rfl rfl rfl (OpJ.makeIface rfl rfl con182) ?_
    refine AList.c 28 rfl rfl rfl (OpJ.buildImm rfl slz180 (by decide) rfl rfl rfl) ?_
    refine AList.c 29 rfl rfl rfl (OpJ.appendRow rfl rfl rfl slz180 sl180 rfl ?_ rfl rfl by184 (by decide) ?_) ?_
    · rw [List.length_map, flat_len (c := 1) (srcC_len c l), srcL_length l _ hg]; rfl
    · show (2 * (i + 1 + 1) + 192) * 16 ≤ 281474976710656; omega
    refine AList.c 5 rfl rfl rfl (OpJ.assign rfl rfl) ?_
    refine AList.nil ?_
    refine AWp.region ?_
    refine AList.c 30 rfl rfl rfl (OpJ.add rfl rfl rfl (i64ok ?_)) ?_
    · omega
    refine AList.c 20 rfl rfl rfl (OpJ.move rfl rfl) ?_
    refine AList.nil ?_
    refine ⟨i + 1, ?_, ?_, ?_⟩
    · omega
    · omega
    refine To.done [0, 3] rfl (by repeat (first | exact Sub.nil | refine Sub.cons rfl ?_)) ?_
    show [_, Blk.row (renL _ (_ ++ _)) _] = [_, Blk.row _ _]
    rw [renL_app, renL_pure, srcL_succ hk0, List.flatMap_append, List.map_append, stk_get hk0]
    rfl
  · skip
    obtain rfl : i = l.st.length := by have h := of_decide_eq_false hc0; omega
    refine AWp.to (To.accD 5 1 (l.st.length + 1) rfl rfl (fun h => by cases h)) ?_
    refine AWp.exit ?_
    refine AWp.seq ?_
    refine AWp.region ?_
    refine AList.c 31 rfl rfl rfl (OpJ.build rfl bd30 rfl rfl) ?_
    refine AList.c 8 rfl rfl rfl (OpJ.allocOwn rfl zr30 rfl) ?_
    refine AList.c0 rfl rfl (OpJ.store rfl rfl rfl rfl rfl ty30 rfl rfl) ?_
    refine AList.nil ?_
    refine AWp.seq ?_
    refine AWp.seq ?_
    refine AWp.region ?_
    refine AList.c 32 rfl rfl rfl (OpJ.move rfl rfl) ?_
    refine AList.c 33 rfl rfl rfl (OpJ.lenSlice rfl rfl sl180 rfl) ?_
    refine AList.c 34 rfl rfl rfl (OpJ.move rfl rfl) ?_
    refine AList.nil ?_
    refine AWp.block ?_
    refine AWp.loopHL [4, 8, 32, 33, 52] (fun g => [(34, .p (.int .i64 ((g : Nat) : Int)))]) (fun g => [.cells [.p (.int .i64 0), .p (.int .i64 0)] 30, .dead, .cells [.p (.int .i64 (blkN c l g).1), .p (.int .i64 (blkN c l g).2)] 30]) (fun g => g ≤ l.st.length + 1) (fun g => l.st.length + 1 - g) 0 (Nat.zero_le _) (To.sub (Sub.chk (Sub.cons rfl (Sub.nil)))) (fun j hh => ?_)
    refine AWp.seq ?_
    refine AWp.region ?_
    refine AList.c 35 rfl rfl rfl (OpJ.lss rfl rfl rfl) ?_
    refine AList.nil ?_
    refine AWp.seq ?_
    refine AWp.cond _ rfl (fun hc1 => ?_) (fun hc1 => ?_)
    · skip
      have hk1 : j < l.st.length + 1 := by have h := of_decide_eq_true hc1; omega
      refine AWp.skip ?_
      refine AWp.seq ?_
      refine AWp.block ?_
      refine AWp.seq ?_
      refine AWp.region ?_
      refine AList.c 36 rfl rfl rfl (OpJ.indexG (g := srcAt l) (srcL_get l) rfl rfl rfl sl180 el180 (srcL_length l _ (Nat.le_refl _)).symm (srcC_len c l) (by decide) (by rw [srcL_length l _ (Nat.le_refl _)]; omega)) ?_
      refine AList.c 37 rfl rfl rfl (OpJ.load rfl rfl ty184 rfl) ?_
      refine AList.c 10 rfl rfl rfl (OpJ.assign rfl rfl) ?_
      refine AList.nil ?_
      refine AWp.seq ?_
      refine AWp.region ?_
      refine AList.c 38 rfl rfl rfl (OpJ.move rfl rfl) ?_
      refine AList.c 39 rfl rfl rfl (OpJ.invoke (src_F _ (by kernel_rfl) (by kernel_rfl) c l hc hl j) rfl rfl rfl) ?_
      refine AList.c 11 rfl rfl rfl (OpJ.allocOwn rfl zr30 rfl) ?_
      refine AList.c0 rfl rfl (OpJ.store rfl rfl rfl rfl rfl ty30 rfl rfl) ?_
      refine AList.nil ?_
      refine AWp.region ?_
      refine AList.c 40 rfl rfl rfl (OpJ.fieldAddr rfl rfl fd30_0 rfl) ?_
      refine AList.c 41 rfl rfl rfl (OpJ.load rfl rfl ty3 rfl) ?_
      refine AList.c 42 rfl rfl rfl (OpJ.fieldAddr rfl rfl fd30_0 rfl) ?_
      refine AList.c 43 rfl rfl rfl (OpJ.load rfl rfl ty3 rfl) ?_
      refine AList.c 44 rfl rfl rfl (OpJ.max2 rfl rfl rfl) ?_
      refine AList.c 45 rfl rfl rfl (OpJ.fieldAddr rfl rfl fd30_1 rfl) ?_
      refine AList.c 46 rfl rfl rfl (OpJ.load rfl rfl ty3 rfl) ?_
      refine AList.c 47 rfl rfl rfl (OpJ.fieldAddr rfl rfl fd30_1 rfl) ?_
      refine AList.c 48 rfl rfl rfl (OpJ.load rfl rfl ty3 rfl) ?_
      refine AList.c 49 rfl rfl rfl (OpJ.min2 rfl rfl rfl) ?_
      refine AList.c 50 rfl rfl rfl (OpJ.build rfl bd30 rfl rfl) ?_
      refine AList.c0 rfl rfl (OpJ.store rfl rfl rfl rfl rfl ty30 rfl rfl) ?_
      refine AList.nil ?_
      refine AWp.region ?_
      refine AList.c 51 rfl rfl rfl (OpJ.add rfl rfl rfl (i64ok ?_)) ?_
      · omega
      refine AList.c 34 rfl rfl rfl (OpJ.move rfl rfl) ?_
      refine AList.nil ?_
      refine ⟨j + 1, ?_, ?_, ?_⟩
      · omega
      · omega
      refine To.done [0, 1, 2] rfl (by repeat (first | exact Sub.nil | refine Sub.cons rfl ?_)) (by rw [blkN_succ hk1]; rfl)
    · skip
      obtain rfl : j = l.st.length + 1 := by have h := of_decide_eq_false hc1; omega
      rw [blkN_all]
      refine AWp.exit ?_
      refine AWp.seq ?_
      refine AWp.region ?_
      refine AList.c 52 rfl rfl rfl (OpJ.load rfl rfl ty30 rfl) ?_
      refine AList.c0 rfl rfl (OpJ.store rfl rfl rfl rfl rfl ty30 rfl rfl) ?_
      refine AList.nil ?_
      refine AWp.ret ?_
      exact Fin.one rfl (⟨_, _, _, rfl, ty30, rfl⟩)
end Go.Proofs.YtbnemnhmejmeeaaGreatDoor.Sh
end

section
set_option linter.unusedVariables false
set_option maxRecDepth 100000
set_option maxHeartbeats 4000000
set_option linter.unusedSimpArgs false
namespace Go.Proofs.YtbnemnhmejmeeaaGreatDoor.Sh
open Go.AF
theorem open_ok (c : List Tnt) (ls : List Lds) (most : Int) (valid : Bool) (hmo : most ≤ 100) (hcb : c.length ≤ bigN) (hb : ls.length ≤ bigN) (hs : ∀ x ∈ ls, x.st.length ≤ bigN) : Pure Tryz.prog 34 [curV c, ldsV ls, .int .i64 most, .bool valid] (.tuple [bchV (openL c ls most valid), .int .i64 (openE c ls most valid)]) := by
  have hb2 := hb
  unfold bigN at hb2
  refine Pure.start (N := 53) Tryz.func34 rfl rfl (Nat.le_of_ble_eq_true rfl) ?_
  refine AWp.seq ?_
  refine AWp.region ?_
  refine AList.c 8 rfl rfl rfl (OpJ.assign rfl rfl) ?_
  refine AList.c 9 rfl rfl rfl (OpJ.assign rfl rfl) ?_
  refine AList.nil ?_
  refine AWp.seq ?_
  refine AWp.block ?_
  refine AWp.seq ?_
  refine AWp.region ?_
  refine AList.c 14 rfl rfl rfl (OpJ.move rfl rfl) ?_
  refine AList.c 15 rfl rfl rfl (OpJ.callP (isCurve_ok c hcb) rfl rfl rfl rfl rf37) ?_
  refine AList.c 16 rfl rfl rfl (OpJ.not_ rfl rfl) ?_
  refine AList.c 13 rfl rfl rfl (OpJ.assign rfl rfl) ?_
  refine AList.nil ?_
  refine AWp.cond _ rfl (fun hc0 => ?_) (fun hc0 => ?_)
  · skip
    have hC : ¬ okC c := by simpa using hc0
    refine AWp.seq ?_
    refine AWp.region ?_
    refine AList.c 8 rfl rfl rfl (OpJ.assign rfl rfl) ?_
    refine AList.c 9 rfl rfl rfl (OpJ.assign rfl rfl) ?_
    refine AList.nil ?_
    refine AWp.to (To.nilIs 8 rfl) ?_
    refine AWp.ret ?_
    have e : openE c ls most valid = 1 := by unfold openE; rw [if_pos hC]
    have e2 : openL c ls most valid = [] := by unfold openL; rw [e]; rfl
    rw [e2, e]
    exact Fin.many (xs := [bchV [], .int .i64 1]) rfl (⟨_, _, rfl, rfl, ⟨_, _, rfl, rfl, rfl⟩⟩) rfl
  · skip
    have hC : okC c := by simpa using hc0
    refine AWp.seq ?_
    refine AWp.region ?_
    refine AList.c 18 rfl rfl rfl (OpJ.move rfl rfl) ?_
    refine AList.c 19 rfl rfl rfl (OpJ.lenSlice rfl rfl sl23 rfl) ?_
    refine AList.c 20 rfl rfl rfl (OpJ.move rfl rfl) ?_
    refine AList.c 21 rfl rfl rfl (OpJ.gtr rfl rfl rfl) ?_
    refine AList.c 17 rfl rfl rfl (OpJ.assign rfl rfl) ?_
    refine AList.nil ?_
    refine AWp.cond _ rfl (fun hc1 => ?_) (fun hc1 => ?_)
    · skip
      have hm : most < ls.length := by have h := of_decide_eq_true hc1; omega
      refine AWp.seq ?_
      refine AWp.region ?_
      refine AList.c 8 rfl rfl rfl (OpJ.assign rfl rfl) ?_
      refine AList.c 9 rfl rfl rfl (OpJ.assign rfl rfl) ?_
      refine AList.nil ?_
      refine AWp.to (To.nilIs 8 rfl) ?_
      refine AWp.ret ?_
      have e : openE c ls most valid = 3 := by unfold openE; rw [if_neg (fun k => k hC), if_pos hm]
      have e2 : openL c ls most valid = [] := by unfold openL; rw [e]; rfl
      rw [e2, e]
      exact Fin.many (xs := [bchV [], .int .i64 3]) rfl (⟨_, _, rfl, rfl, ⟨_, _, rfl, rfl, rfl⟩⟩) rfl
    · skip
      have hm : ¬ most < ls.length := by have h := of_decide_eq_false hc1; omega
      refine AWp.seq ?_
      refine AWp.region ?_
      refine AList.c 23 rfl rfl rfl (OpJ.move rfl rfl) ?_
      refine AList.c 24 rfl rfl rfl (OpJ.not_ rfl rfl) ?_
      refine AList.c 25 rfl rfl rfl (OpJ.move rfl rfl) ?_
      refine AList.g 26 25 rfl rfl rfl rfl rfl rfl rfl [(1, _)] (fun h => And.intro (.inl rfl) (trivial)) (fun h => (OpJ.move rfl rfl)) ?_
      refine AList.g 27 25 rfl rfl rfl rfl rfl rfl rfl [(26, _)] (fun h => And.intro (.inr ⟨_, rfl, h⟩) (trivial)) (fun h => (OpJ.callP (containsFL_ok ls _ (fun l => !ldB l) hb (fun x hx => ⟨78, [ldV x], rfl, rf78, isBad_ok x (hs x hx)⟩)) rfl rfl rfl rfl rf77)) ?_
      refine AList.c 28 rfl rfl rfl (OpJ.or_ rfl rfl rfl ?_) ?_
      · first | (intro h; rw [h]; rfl) | (intro h; simp_all)
      refine AList.c 22 rfl rfl rfl (OpJ.assign rfl rfl) ?_
      refine AList.nil ?_
      refine AWp.cond _ rfl (fun hc2 => ?_) (fun hc2 => ?_)
      · skip
        refine AWp.seq ?_
        refine AWp.region ?_
        refine AList.c 8 rfl rfl rfl (OpJ.assign rfl rfl) ?_
        refine AList.c 9 rfl rfl rfl (OpJ.assign rfl rfl) ?_
        refine AList.nil ?_
        refine AWp.to (To.nilIs 8 rfl) ?_
        refine AWp.ret ?_
        have e : openE c ls most valid = 2 := by unfold openE; rw [if_neg (fun k => k hC), if_neg hm, if_pos hc2]
        have e2 : openL c ls most valid = [] := by unfold openL; rw [e]; rfl
        rw [e2, e]
        exact Fin.many (xs := [bchV [], .int .i64 2]) rfl (⟨_, _, rfl, rfl, ⟨_, _, rfl, rfl, rfl⟩⟩) rfl
      · skip
        have hL : ∀ l ∈ ls, OkL l := by
          rw [Bool.or_eq_false_iff] at hc2
          exact fun l hl => (ldB_iff l).1 (any_not.1 hc2.2 l hl)
        have hb3 : ls.length ≤ 1000000 := by omega
        refine AWp.skip ?_
        refine AWp.seq ?_
        refine AWp.seq ?_
        refine AWp.region ?_
        refine AList.c 29 rfl rfl rfl (OpJ.move rfl rfl) ?_
        refine AList.c 30 rfl rfl rfl (OpJ.lenSlice rfl rfl sl23 rfl) ?_
        refine AList.c 31 rfl rfl rfl (OpJ.move rfl rfl) ?_
        refine AList.nil ?_
        refine AWp.block ?_
        refine AWp.loopHL [0, 29, 30, 52] (fun g => [(31, .p (.int .i64 ((g : Nat) : Int))), (8, accV 0 g)]) (fun g => [accB ((((ls.take g).map (toB c)).flatMap Bch.cells).map .p) 95 g]) (fun g => g ≤ ls.length ∧ ∀ j, j < g → blkB c (ld ls j) = true) (fun g => ls.length - g) 0 ⟨Nat.zero_le _, fun j hj => absurd hj (by omega)⟩ (To.pad.trans (To.sub (Sub.chk (Sub.cons rfl (Sub.cons rfl Sub.nil))))) (fun i hg => ?_)
        obtain ⟨hg1, hg2⟩ := hg
        refine AWp.seq ?_
        refine AWp.region ?_
        refine AList.c 32 rfl rfl rfl (OpJ.lss rfl rfl rfl) ?_
        refine AList.nil ?_
        refine AWp.seq ?_
        refine AWp.cond _ rfl (fun hc3 => ?_) (fun hc3 => ?_)
        · skip
          have hk0 : i < ls.length := by have h := of_decide_eq_true hc3; omega
          refine AWp.skip ?_
          refine AWp.seq ?_
          refine AWp.block ?_
          refine AWp.seq ?_
          refine AWp.region ?_
          refine AList.c 33 rfl rfl rfl (OpJ.indexG (g := ld ls) (fun _ h => ld_get h) rfl rfl rfl sl23 el23 rfl (fun _ => rfl) (by decide) hk0) ?_
          refine AList.c 34 rfl rfl rfl (OpJ.load (v := .p (ldV (ld ls i))) rfl rfl ty33 rfl) ?_
          refine AList.c 11 rfl rfl rfl (OpJ.allocOwn rfl zr33 rfl) ?_
          refine AList.c0 rfl rfl (OpJ.store (H' := [accB ((((ls.take i).map (toB c)).flatMap Bch.cells).map .p) 95 i, .cells ((ld ls i).cells.map .p) 33]) rfl rfl rfl rfl rfl ty33 rfl rfl) ?_
          refine AList.nil ?_
          refine AWp.seq ?_
          refine AWp.regionDrawC 7 mixed (by kernel_rfl) (by decide) ?_
          refine AQuietC.cons 35 rfl rfl rfl (OpJ.load (v := .p (ldV (ld ls i))) rfl rfl ty33 rfl) (fun _ => (OpJ.load (v := .p (ldV (ld ls i))) rfl rfl ty33 rfl)) ?_
          refine AQuietC.cons 36 rfl rfl rfl (OpJ.move rfl rfl) (fun _ => (OpJ.move rfl rfl)) ?_
          refine AQuietC.cons 37 rfl rfl rfl (OpJ.load (v := .p (ldV (ld ls i))) rfl rfl ty33 rfl) (fun _ => (OpJ.load (v := .p (ldV (ld ls i))) rfl rfl ty33 rfl)) ?_
          refine AQuietC.cons 38 rfl rfl rfl (OpJ.callP (blackOf_ok c (ld ls i) hC (hL _ (ld_mem hk0))) rfl rfl rfl rfl rf79) (fun _ => (OpJ.callP (blackOf_ok c (ld ls i) hC (hL _ (ld_mem hk0))) rfl rfl rfl rfl rf79)) ?_
          refine AQuietC.cons 39 rfl rfl rfl (OpJ.buildR (v := .p (.agg (toB c (ld ls i)).cells)) rfl bd95 rfl rfl rfl) (fun _ => (OpJ.buildR (v := .p (.agg (toB c (ld ls i)).cells)) rfl bd95 rfl rfl rfl)) ?_
          refine AQuietC.lay 12 rfl rfl rfl (OpJ.allocOwn rfl zr95 rfl) ?_
          refine AQuietC.put (blk2 := .cells ((toB c (ld ls i)).cells.map .p) 95) rfl rfl (by decide) (OpJ.store rfl rfl rfl rfl rfl ty95 rfl rfl) rfl ?_
          refine AQuietC.nil ?_
          refine AList.nil ?_
          refine AWp.seq ?_
          refine AWp.seq ?_
          refine AWp.region ?_
          refine AList.c 40 rfl rfl rfl (OpJ.fieldAddr rfl rfl fd95_1 rfl) ?_
          refine AList.c 41 rfl rfl rfl (OpJ.fieldAddr rfl rfl fd30_0 rfl) ?_
          refine AList.c 42 rfl rfl rfl (OpJ.load rfl rfl ty3 rfl) ?_
          refine AList.c 43 rfl rfl rfl (OpJ.fieldAddr rfl rfl fd95_1 rfl) ?_
          refine AList.c 44 rfl rfl rfl (OpJ.fieldAddr rfl rfl fd30_1 rfl) ?_
          refine AList.c 45 rfl rfl rfl (OpJ.load rfl rfl ty3 rfl) ?_
          refine AList.c 46 rfl rfl rfl (OpJ.gtr rfl rfl rfl) ?_
          refine AList.nil ?_
          refine AWp.cond _ rfl (fun hc4 => ?_) (fun hc4 => ?_)
          · skip
            have hB : blkB c (ld ls i) = false := decide_eq_false (by have h : (blk c (ld ls i)).1 > (blk c (ld ls i)).2 := of_decide_eq_true hc4; omega)
            refine AWp.seq ?_
            refine AWp.region ?_
            refine AList.c 8 rfl rfl rfl (OpJ.assign rfl rfl) ?_
            refine AList.c 9 rfl rfl rfl (OpJ.assign rfl rfl) ?_
            refine AList.nil ?_
            refine AWp.to (To.nilIs 8 rfl) ?_
            refine AWp.ret ?_
            have e : openE c ls most valid = 6 := by unfold openE; rw [if_neg (fun k => k hC), if_neg hm, if_neg (by rw [hc2]; decide), if_pos (any_not_at (ld_mem hk0) hB)]
            have e2 : openL c ls most valid = [] := by unfold openL; rw [e]; rfl
            rw [e2, e]
            exact Fin.many (xs := [bchV [], .int .i64 6]) rfl (⟨_, _, rfl, rfl, ⟨_, _, rfl, rfl, rfl⟩⟩) rfl
          · skip
            have hB : blkB c (ld ls i) = true := decide_eq_true (by have h : ¬ (blk c (ld ls i)).1 > (blk c (ld ls i)).2 := of_decide_eq_false hc4; omega)
            refine AWp.skip ?_
            refine AWp.region ?_
            refine AList.c 47 rfl rfl rfl (OpJ.move rfl rfl) ?_
            refine AList.c 48 rfl rfl rfl (OpJ.load (v := .p (.agg (toB c (ld ls i)).cells)) rfl rfl ty95 rfl) ?_
            refine AList.c 49 rfl rfl rfl (OpJ.buildImm rfl slz91 (by decide) rfl rfl rfl) ?_
            refine AList.c 50 rfl rfl rfl (OpJ.appendAcc rfl rfl rfl slz91 sl91 rfl ?_ rfl (by decide) rfl by95 (by decide) ?_) ?_
            · rw [List.length_map, flat_len (c := 13) (fun _ => rfl), List.length_map, List.length_take_of_le hg1]; rfl
            · show (2 * (i + 1) + 192) * 120 ≤ 281474976710656; omega
            refine AList.c 8 rfl rfl rfl (OpJ.assign rfl rfl) ?_
            refine AList.nil ?_
            refine AWp.region ?_
            refine AList.c 51 rfl rfl rfl (OpJ.add rfl rfl rfl (i64ok ?_)) ?_
            · omega
            refine AList.c 31 rfl rfl rfl (OpJ.move rfl rfl) ?_
            refine AList.nil ?_
            refine ⟨i + 1, ?_, ?_, ?_⟩
            · refine ⟨by omega, fun j hj => ?_⟩
              rcases Nat.lt_succ_iff_lt_or_eq.1 hj with h1 | rfl
              · exact hg2 j h1
              · exact hB
            · omega
            refine To.done [3] rfl (by repeat (first | exact Sub.nil | refine Sub.cons rfl ?_)) ?_
            show [Blk.row (renL _ (_ ++ _)) _] = [Blk.row _ _]
            rw [renL_app, renL_pure, List.take_succ_eq_append_getElem hk0, List.map_append, List.flatMap_append, List.map_append, ld_get hk0]
            rfl
        · skip
          obtain rfl : i = ls.length := by have h := of_decide_eq_false hc3; omega
          refine AWp.exit ?_
          refine AWp.seq ?_
          refine AWp.region ?_
          refine AList.c 52 rfl rfl rfl (OpJ.move rfl rfl) ?_
          refine AList.c 8 rfl rfl rfl (OpJ.assign rfl rfl) ?_
          refine AList.c 9 rfl rfl rfl (OpJ.assign rfl rfl) ?_
          refine AList.nil ?_
          refine AWp.to (To.accD 8 0 ls.length rfl rfl (fun h => by rw [h]; rfl)) ?_
          refine AWp.ret ?_
          have e : openE c ls most valid = 0 := by unfold openE; rw [if_neg (fun k => k hC), if_neg hm, if_neg (by rw [hc2]; decide), if_neg (by rw [any_not.2 (fun x hx => by obtain ⟨j, hj, rfl⟩ := List.getElem_of_mem hx; rw [ld_get hj]; exact hg2 j hj)]; decide)]
          have e2 : openL c ls most valid = (ls.take ls.length).map (toB c) := by unfold openL; rw [e, if_pos rfl, List.take_length]
          rw [e2, e]
          unfold bchV
          rw [List.length_map, List.length_take_of_le (Nat.le_refl _)]
          exact Fin.many (xs := [.is (((ls.take ls.length).map (toB c)).flatMap Bch.cells) ls.length, .int .i64 0]) rfl (⟨_, _, rfl, rfl, ⟨_, _, rfl, rfl, rfl⟩⟩) rfl
theorem black_R (c : List Tnt) (l : Lds) (hcb : c.length ≤ bigN) (hs : l.st.length ≤ bigN) : Pure Tryz.prog 11 [curV c, ldV l] (.tuple [spV (blackR c l).1, .int .i64 (blackR c l).2]) := by
  refine Pure.start (N := 23) Tryz.func11 rfl rfl (Nat.le_of_ble_eq_true rfl) ?_
  refine AWp.seq ?_
  refine AWp.region ?_
  refine AList.c 3 rfl rfl rfl (OpJ.boxImm rfl rfl rfl) ?_
  refine AList.c 4 rfl rfl rfl (OpJ.allocOwn rfl zr30 rfl) ?_
  refine AList.c 5 rfl rfl rfl (OpJ.assign rfl rfl) ?_
  refine AList.nil ?_
  refine AWp.seq ?_
  refine AWp.region ?_
  refine AList.c 9 rfl rfl rfl (OpJ.move rfl rfl) ?_
  refine AList.c 10 rfl rfl rfl (OpJ.load rfl rfl ty33 rfl) ?_
  refine AList.c 11 rfl rfl rfl (OpJ.buildImm rfl slz23 (by decide) rfl rfl rfl) ?_
  refine AList.c 12 rfl rfl rfl (OpJ.callP (open_ok c [l] 1 true (by omega) hcb (by unfold bigN; show 1 ≤ _; omega) (fun x hx => by simp at hx; subst hx; exact hs)) rfl rfl rfl rfl rf34) ?_
  refine AList.c 8 rfl rfl rfl (OpJ.move rfl rfl) ?_
  refine AList.c 13 rfl rfl rfl (OpJ.extract rfl rfl rfl) ?_
  refine AList.c 14 rfl rfl rfl (OpJ.extract rfl rfl rfl) ?_
  refine AList.c 6 rfl rfl rfl (OpJ.assign rfl rfl) ?_
  refine AList.c 7 rfl rfl rfl (OpJ.assign rfl rfl) ?_
  refine AList.nil ?_
  refine AWp.seq ?_
  refine AWp.seq ?_
  refine AWp.region ?_
  refine AList.c 15 rfl rfl rfl (OpJ.move rfl rfl) ?_
  refine AList.c 16 rfl rfl rfl (OpJ.neq rfl rfl rfl) ?_
  refine AList.nil ?_
  refine AWp.cond _ rfl (fun hc0 => ?_) (fun hc0 => ?_)
  · skip
    have e : openE c [l] 1 true ≠ 0 := by simpa using hc0
    refine AWp.seq ?_
    refine AWp.region ?_
    refine AList.c 17 rfl rfl rfl (OpJ.build rfl bd30 rfl rfl) ?_
    refine AList.c 18 rfl rfl rfl (OpJ.move rfl rfl) ?_
    refine AList.c0 rfl rfl (OpJ.store rfl rfl rfl rfl rfl ty30 rfl rfl) ?_
    refine AList.c 5 rfl rfl rfl (OpJ.assign rfl rfl) ?_
    refine AList.nil ?_
    refine AWp.ret ?_
    have eR : blackR c l = ((0, 0), openE c [l] 1 true) := by unfold blackR; rw [if_neg e]
    rw [eR]
    exact Fin.many (xs := [spV (0, 0), .int .i64 (openE c [l] 1 true)]) rfl (⟨_, _, rfl, ⟨_, _, _, rfl, ty30, rfl⟩, ⟨_, _, rfl, rfl, rfl⟩⟩) rfl
  · skip
    have e : openE c [l] 1 true = 0 := by simpa using hc0
    rw [openL_one e]
    refine AWp.skip ?_
    refine AWp.seq ?_
    refine AWp.region ?_
    refine AList.c 19 rfl rfl rfl (OpJ.move rfl rfl) ?_
    refine AList.c 20 rfl rfl rfl (OpJ.indexG (g := bc [toB c l]) (k := 0) (fun _ h => bc_get h) rfl rfl rfl sl91 el91 rfl (fun _ => rfl) (by decide) (Nat.lt_succ_self 0)) ?_
    refine AList.c 21 rfl rfl rfl (OpJ.fieldAddr rfl rfl fd95_1 rfl) ?_
    refine AList.c 22 rfl rfl rfl (OpJ.load rfl rfl ty30 rfl) ?_
    refine AList.c0 rfl rfl (OpJ.store rfl rfl rfl rfl rfl ty30 rfl rfl) ?_
    refine AList.c 5 rfl rfl rfl (OpJ.assign rfl rfl) ?_
    refine AList.nil ?_
    refine AWp.ret ?_
    have eR : blackR c l = (blk c l, 0) := by unfold blackR; rw [if_pos e]
    rw [eR]
    exact Fin.many (xs := [spV (blk c l), .int .i64 0]) rfl (⟨_, _, rfl, ⟨_, _, _, rfl, ty30, rfl⟩, ⟨_, _, rfl, rfl, rfl⟩⟩) rfl

theorem both_ok (a b c d : Int) : Pure Tryz.prog 39 [.agg [.int .i64 a, .int .i64 b], .agg [.int .i64 c, .int .i64 d]] (.agg [.int .i64 (max a c), .int .i64 (min b d)]) := by
  refine Pure.start (N := 16) Tryz.func39 rfl rfl (Nat.le_of_ble_eq_true rfl) ?_
  refine AWp.seq ?_
  refine AWp.region ?_
  refine AList.c 2 rfl rfl rfl (OpJ.boxImm rfl rfl rfl) ?_
  refine AList.c 3 rfl rfl rfl (OpJ.boxImm rfl rfl rfl) ?_
  refine AList.c 4 rfl rfl rfl (OpJ.allocOwn rfl zr30 rfl) ?_
  refine AList.nil ?_
  refine AWp.seq ?_
  refine AWp.region ?_
  refine AList.c 5 rfl rfl rfl (OpJ.fieldAddr rfl rfl fd30_0 rfl) ?_
  refine AList.c 6 rfl rfl rfl (OpJ.load rfl rfl ty3 rfl) ?_
  refine AList.c 7 rfl rfl rfl (OpJ.fieldAddr rfl rfl fd30_0 rfl) ?_
  refine AList.c 8 rfl rfl rfl (OpJ.load rfl rfl ty3 rfl) ?_
  refine AList.c 9 rfl rfl rfl (OpJ.max2 rfl rfl rfl) ?_
  refine AList.c 10 rfl rfl rfl (OpJ.fieldAddr rfl rfl fd30_1 rfl) ?_
  refine AList.c 11 rfl rfl rfl (OpJ.load rfl rfl ty3 rfl) ?_
  refine AList.c 12 rfl rfl rfl (OpJ.fieldAddr rfl rfl fd30_1 rfl) ?_
  refine AList.c 13 rfl rfl rfl (OpJ.load rfl rfl ty3 rfl) ?_
  refine AList.c 14 rfl rfl rfl (OpJ.min2 rfl rfl rfl) ?_
  refine AList.c 15 rfl rfl rfl (OpJ.build rfl bd30 rfl rfl) ?_
  refine AList.c0 rfl rfl (OpJ.store rfl rfl rfl rfl rfl ty30 rfl rfl) ?_
  refine AList.nil ?_
  refine AWp.ret ?_
  exact Fin.one rfl (⟨_, _, _, rfl, ty30, rfl⟩)
end Go.Proofs.YtbnemnhmejmeeaaGreatDoor.Sh
end

section
set_option linter.unusedVariables false
set_option maxRecDepth 100000
set_option maxHeartbeats 4000000
set_option linter.unusedSimpArgs false
namespace Go.Proofs.YtbnemnhmejmeeaaGreatDoor.Sh
open Go.AF
theorem has_R (c : List Tnt) (s : List Shd) (l : Lds) (hcb : c.length ≤ bigN) (hsl : s.length ≤ bigN) (hs : l.st.length ≤ bigN) : Pure Tryz.prog 12 [curV c, shdV s, ldV l] (.tuple [intsV (hasR c s l).1, .int .i64 (hasR c s l).2]) := by
  have hsl2 := hsl
  unfold bigN at hsl2
  refine Pure.start (N := 74) Tryz.func12 rfl rfl (Nat.le_of_ble_eq_true rfl) ?_
  refine AWp.seq ?_
  refine AWp.region ?_
  refine AList.c 5 rfl rfl rfl (OpJ.boxImm rfl rfl rfl) ?_
  refine AList.c 6 rfl rfl rfl (OpJ.assign rfl rfl) ?_
  refine AList.c 7 rfl rfl rfl (OpJ.assign rfl rfl) ?_
  refine AList.nil ?_
  refine AWp.seq ?_
  refine AWp.region ?_
  refine AList.c 8 rfl rfl rfl (OpJ.assign rfl rfl) ?_
  refine AList.nil ?_
  refine AWp.seq ?_
  refine AWp.seq ?_
  refine AWp.region ?_
  refine AList.c 13 rfl rfl rfl (OpJ.move rfl rfl) ?_
  refine AList.c 14 rfl rfl rfl (OpJ.callP (isCurve_ok c hcb) rfl rfl rfl rfl rf37) ?_
  refine AList.c 15 rfl rfl rfl (OpJ.move rfl rfl) ?_
  refine AList.g 16 15 rfl rfl rfl rfl rfl rfl rfl [(1, _)] (fun h => And.intro (.inl rfl) (trivial)) (fun h => (OpJ.move rfl rfl)) ?_
  refine AList.g 17 15 rfl rfl rfl rfl rfl rfl rfl [(16, _)] (fun h => And.intro (.inr ⟨_, rfl, h⟩) (trivial)) (fun h => (OpJ.lenSlice rfl rfl sl24 rfl)) ?_
  refine AList.g 18 15 rfl rfl rfl rfl rfl rfl rfl [(17, _)] (fun h => And.intro (.inr ⟨_, rfl, h⟩) (trivial)) (fun h => (OpJ.gtr rfl rfl rfl)) ?_
  refine AList.c 19 rfl rfl rfl (OpJ.and_ rfl rfl rfl ?_) ?_
  · first | (intro h; rw [h]; rfl) | (intro h; simp_all)
  refine AList.nil ?_
  refine AWp.cond _ rfl (fun hc0 => ?_) (fun hc0 => ?_)
  · skip
    have hE : okC c ∧ 8 < s.length := by simp at hc0; exact ⟨hc0.1, by omega⟩
    refine AWp.seq ?_
    refine AWp.region ?_
    refine AList.c 6 rfl rfl rfl (OpJ.assign rfl rfl) ?_
    refine AList.c 7 rfl rfl rfl (OpJ.assign rfl rfl) ?_
    refine AList.nil ?_
    refine AWp.to (To.nilIs 6 rfl) ?_
    refine AWp.ret ?_
    have eE : hasE c s l = 3 := by unfold hasE; rw [if_pos hE]
    have eR : hasR c s l = ([], 3) := by unfold hasR; rw [if_neg (by rw [eE]; decide), eE]
    rw [eR]
    exact Fin.many (xs := [intsV [], .int .i64 3]) rfl (⟨_, _, rfl, rfl, ⟨_, _, rfl, rfl, rfl⟩⟩) rfl
  · skip
    have hE : ¬ (okC c ∧ 8 < s.length) := by simp at hc0; intro h; have := hc0 h.1; omega
    refine AWp.skip ?_
    refine AWp.seq ?_
    refine AWp.regionDraw 13 mixed (by kernel_rfl) (by decide) ?_
    refine AQuiet.cons 21 rfl rfl rfl (OpJ.move rfl rfl) ?_
    refine AQuiet.cons 22 rfl rfl rfl (OpJ.load (v := .p (ldV l)) rfl rfl ty33 rfl) ?_
    refine AQuiet.cons 23 rfl rfl rfl (OpJ.buildImm rfl slz23 (by decide) rfl rfl rfl) ?_
    refine AQuiet.cons 24 rfl rfl rfl (OpJ.move rfl rfl) ?_
    refine AQuiet.cons 25 rfl rfl rfl (OpJ.move rfl rfl) ?_
    refine AQuiet.cons 26 rfl rfl rfl (OpJ.callP (containsFS_ok s _ (fun x => !shdB x) hsl (fun x hx => ⟨35, [.agg x.cells], rfl, rf35, has1_ok x⟩)) rfl rfl rfl rfl rf38) ?_
    refine AQuiet.cons 27 rfl rfl rfl (OpJ.not_ rfl rfl) ?_
    refine AQuiet.cons 28 rfl rfl rfl (OpJ.callP (open_ok c [l] 1 (!s.any fun x => !shdB x) (by omega) hcb (by unfold bigN; show 1 ≤ _; omega) (fun x hx => by simp at hx; subst hx; exact hs)) rfl rfl rfl rfl rf34) ?_
    refine AQuiet.cons 20 rfl rfl rfl (OpJ.move rfl rfl) ?_
    refine AQuiet.cons 29 rfl rfl rfl (OpJ.extract rfl rfl rfl) ?_
    refine AQuiet.cons 30 rfl rfl rfl (OpJ.extract rfl rfl rfl) ?_
    refine AQuiet.cons 9 rfl rfl rfl (OpJ.assign rfl rfl) ?_
    refine AQuiet.cons 7 rfl rfl rfl (OpJ.assign rfl rfl) ?_
    refine AQuiet.nil ?_
    refine AList.nil ?_
    refine AWp.seq ?_
    refine AWp.seq ?_
    refine AWp.region ?_
    refine AList.c 31 rfl rfl rfl (OpJ.move rfl rfl) ?_
    refine AList.c 32 rfl rfl rfl (OpJ.neq rfl rfl rfl) ?_
    refine AList.nil ?_
    refine AWp.cond _ rfl (fun hc1 => ?_) (fun hc1 => ?_)
    · skip
      have e : openE c [l] 1 (!s.any fun x => !shdB x) ≠ 0 := by simpa using hc1
      refine AWp.seq ?_
      refine AWp.region ?_
      refine AList.c 33 rfl rfl rfl (OpJ.move rfl rfl) ?_
      refine AList.c 6 rfl rfl rfl (OpJ.assign rfl rfl) ?_
      refine AList.c 7 rfl rfl rfl (OpJ.assign rfl rfl) ?_
      refine AList.nil ?_
      refine AWp.to (To.nilIs 6 rfl) ?_
      refine AWp.ret ?_
      have eE : hasE c s l = openE c [l] 1 (!s.any fun x => !shdB x) := by unfold hasE; rw [if_neg hE]
      have eR : hasR c s l = ([], openE c [l] 1 (!s.any fun x => !shdB x)) := by unfold hasR; rw [if_neg (by rw [eE]; exact e), eE]
      rw [eR]
      exact Fin.many (xs := [intsV [], .int .i64 (openE c [l] 1 (!s.any fun x => !shdB x))]) rfl (⟨_, _, rfl, rfl, ⟨_, _, rfl, rfl, rfl⟩⟩) rfl
    · skip
      have e : openE c [l] 1 (!s.any fun x => !shdB x) = 0 := by simpa using hc1
      rw [openL_one e]
      have hO := openE_zero.1 e
      have hC := hO.oc
      have h8 : s.length ≤ 8 := by rcases Nat.lt_or_ge 8 s.length with h | h; { exact absurd ⟨hC, h⟩ hE }; { exact h }
      refine AWp.skip ?_
      refine AWp.seq ?_
      refine AWp.regionDrawC 11 mixed (by kernel_rfl) (by decide) ?_
      refine AQuietC.cons 34 rfl rfl rfl (OpJ.move rfl rfl) (fun _ => (OpJ.move rfl rfl)) ?_
      refine AQuietC.cons 35 rfl rfl rfl (OpJ.indexG (g := bc [toB c l]) (k := 0) (fun _ h => bc_get h) rfl rfl rfl sl91 el91 rfl (fun _ => rfl) (by decide) (Nat.lt_succ_self 0)) (fun _ => (OpJ.indexG (g := bc [toB c l]) (k := 0) (fun _ h => bc_get h) rfl rfl rfl sl91 el91 rfl (fun _ => rfl) (by decide) (Nat.lt_succ_self 0))) ?_
      refine AQuietC.cons 36 rfl rfl rfl (OpJ.fieldAddr rfl rfl fd95_1 rfl) (fun _ => (OpJ.fieldAddr rfl rfl fd95_1 rfl)) ?_
      refine AQuietC.cons 37 rfl rfl rfl (OpJ.load (v := .p (spV (blk c l))) rfl rfl ty30 rfl) (fun _ => (OpJ.load (v := .p (spV (blk c l))) rfl rfl ty30 rfl)) ?_
      refine AQuietC.cons 38 rfl rfl rfl (OpJ.fieldAddr rfl rfl fd33_4 rfl) (fun _ => (OpJ.fieldAddr rfl rfl fd33_4 rfl)) ?_
      refine AQuietC.cons 39 rfl rfl rfl (OpJ.load rfl rfl ty30 rfl) (fun _ => (OpJ.load rfl rfl ty30 rfl)) ?_
      refine AQuietC.cons 40 rfl rfl rfl (OpJ.fieldAddr rfl rfl fd33_5 rfl) (fun _ => (OpJ.fieldAddr rfl rfl fd33_5 rfl)) ?_
      refine AQuietC.cons 41 rfl rfl rfl (OpJ.load rfl rfl ty30 rfl) (fun _ => (OpJ.load rfl rfl ty30 rfl)) ?_
      refine AQuietC.cons 42 rfl rfl rfl (OpJ.buildR (v := .p (.agg (ownS c l).cells)) rfl bd97 rfl rfl rfl) (fun _ => (OpJ.buildR (v := .p (.agg (ownS c l).cells)) rfl bd97 rfl rfl rfl)) ?_
      refine AQuietC.lay 10 rfl rfl rfl (OpJ.allocOwn rfl zr97 rfl) ?_
      refine AQuietC.put (blk2 := .cells ((ownS c l).cells.map .p) 97) rfl rfl (by decide) (OpJ.store rfl rfl rfl rfl rfl ty97 rfl rfl) rfl ?_
      refine AQuietC.nil ?_
      refine AList.nil ?_
      refine AWp.seq ?_
      refine AWp.seq ?_
      refine AWp.region ?_
      refine AList.c 43 rfl rfl rfl (OpJ.move rfl rfl) ?_
      refine AList.c 44 rfl rfl rfl (OpJ.lenSlice rfl rfl sl24 rfl) ?_
      refine AList.c 45 rfl rfl rfl (OpJ.move rfl rfl) ?_
      refine AList.nil ?_
      refine AWp.block ?_
      refine AWp.loopHL [10, 43, 44, 73] (fun g => [(45, .p (.int .i64 ((g : Nat) : Int))), (6, accV 1 (idxs (fun i => hasQ c (sh s i) l) g).length)]) (fun g => [.cells ((ownS c l).cells.map .p) 97, accB (((idxs (fun i => hasQ c (sh s i) l) g).flatMap i1).map .p) 3 (idxs (fun i => hasQ c (sh s i) l) g).length]) (fun g => g ≤ s.length) (fun g => s.length - g) 0 (Nat.zero_le _) (To.pad.trans (To.sub (Sub.chk (Sub.cons rfl (Sub.cons rfl Sub.nil))))) (fun i hg => ?_)
      refine AWp.seq ?_
      refine AWp.region ?_
      refine AList.c 46 rfl rfl rfl (OpJ.lss rfl rfl rfl) ?_
      refine AList.nil ?_
      refine AWp.seq ?_
      refine AWp.cond _ rfl (fun hc2 => ?_) (fun hc2 => ?_)
      · skip
        have hk0 : i < s.length := by have h := of_decide_eq_true hc2; omega
        have il := idxs_len (fun i => hasQ c (sh s i) l) i
        refine AWp.skip ?_
        refine AWp.seq ?_
        refine AWp.block ?_
        refine AWp.seq ?_
        refine AWp.region ?_
        refine AList.c 47 rfl rfl rfl (OpJ.move rfl rfl) ?_
        refine AList.c 48 rfl rfl rfl (OpJ.indexG (g := sh s) (fun _ h => sh_get h) rfl rfl rfl sl24 el24 rfl (fun _ => rfl) (by decide) hk0) ?_
        refine AList.c 49 rfl rfl rfl (OpJ.load (v := .p (.agg (sh s i).cells)) rfl rfl ty97 rfl) ?_
        refine AList.c 12 rfl rfl rfl (OpJ.allocOwn rfl zr97 rfl) ?_
        refine AList.c 11 rfl rfl rfl (OpJ.assign rfl rfl) ?_
        refine AList.c0 rfl rfl (OpJ.store (H' := [.cells ((ownS c l).cells.map .p) 97, accB (((idxs (fun i => hasQ c (sh s i) l) i).flatMap i1).map .p) 3 (idxs (fun i => hasQ c (sh s i) l) i).length, .cells ((sh s i).cells.map .p) 97]) rfl rfl rfl rfl rfl ty97 rfl rfl) ?_
        refine AList.nil ?_
        refine AWp.seq ?_
        refine AWp.regionDraw 18 mixed (by kernel_rfl) (by decide) ?_
        refine AQuiet.cons 50 rfl rfl rfl (OpJ.fieldAddr rfl rfl fd97_0 rfl) ?_
        refine AQuiet.cons 51 rfl rfl rfl (OpJ.load rfl rfl ty30 rfl) ?_
        refine AQuiet.cons 52 rfl rfl rfl (OpJ.fieldAddr rfl rfl fd97_0 rfl) ?_
        refine AQuiet.cons 53 rfl rfl rfl (OpJ.load rfl rfl ty30 rfl) ?_
        refine AQuiet.cons 54 rfl rfl rfl (OpJ.callP (both_ok _ _ _ _) rfl rfl rfl rfl rf39) ?_
        refine AQuiet.cons 55 rfl rfl rfl (OpJ.fieldAddr rfl rfl fd97_1 rfl) ?_
        refine AQuiet.cons 56 rfl rfl rfl (OpJ.load rfl rfl ty30 rfl) ?_
        refine AQuiet.cons 57 rfl rfl rfl (OpJ.fieldAddr rfl rfl fd97_1 rfl) ?_
        refine AQuiet.cons 58 rfl rfl rfl (OpJ.load rfl rfl ty30 rfl) ?_
        refine AQuiet.cons 59 rfl rfl rfl (OpJ.callP (both_ok _ _ _ _) rfl rfl rfl rfl rf39) ?_
        refine AQuiet.cons 60 rfl rfl rfl (OpJ.fieldAddr rfl rfl fd97_2 rfl) ?_
        refine AQuiet.cons 61 rfl rfl rfl (OpJ.load rfl rfl ty30 rfl) ?_
        refine AQuiet.cons 62 rfl rfl rfl (OpJ.fieldAddr rfl rfl fd97_2 rfl) ?_
        refine AQuiet.cons 63 rfl rfl rfl (OpJ.load rfl rfl ty30 rfl) ?_
        refine AQuiet.cons 64 rfl rfl rfl (OpJ.callP (both_ok _ _ _ _) rfl rfl rfl rfl rf39) ?_
        refine AQuiet.cons 65 rfl rfl rfl (OpJ.build rfl bd97 rfl rfl) ?_
        refine AQuiet.cons 66 rfl rfl rfl (OpJ.load (v := .p (.agg (ownS c l).cells)) rfl rfl ty97 rfl) ?_
        refine AQuiet.cons 67 rfl rfl rfl (OpJ.eqAgg (d := 8) rfl (.inl rfl) rfl rfl (by decide) eq97 ty97 rfl eg97 rfl) ?_
        refine AQuiet.nil ?_
        refine AList.nil ?_
        refine AWp.cond _ rfl (fun hc3 => ?_) (fun hc3 => ?_)
        · skip
          have hQ : hasQ c (sh s i) l = true := decide_eq_true (by simp [ownS] at hc3; omega)
          refine AWp.region ?_
          refine AList.c 68 rfl rfl rfl (OpJ.move rfl rfl) ?_
          refine AList.c 69 rfl rfl rfl (OpJ.move rfl rfl) ?_
          refine AList.c 70 rfl rfl rfl (OpJ.buildImm rfl slz45 (by decide) rfl rfl rfl) ?_
          refine AList.c 71 rfl rfl rfl (OpJ.appendAcc rfl rfl rfl slz45 sl45 rfl ?_ rfl (by decide) rfl by3 (by decide) ?_) ?_
          · rw [List.length_map, flat_len (c := 1) (fun _ => rfl)]; rfl
          · show (2 * ((idxs (fun i => hasQ c (sh s i) l) i).length + 1) + 192) * 8 ≤ 281474976710656; omega
          refine AList.c 6 rfl rfl rfl (OpJ.assign rfl rfl) ?_
          refine AList.nil ?_
          refine AWp.region ?_
          refine AList.c 72 rfl rfl rfl (OpJ.add rfl rfl rfl (i64ok ?_)) ?_
          · omega
          refine AList.c 45 rfl rfl rfl (OpJ.move rfl rfl) ?_
          refine AList.nil ?_
          refine ⟨i + 1, ?_, ?_, ?_⟩
          · omega
          · omega
          have eo : idxs (fun i => hasQ c (sh s i) l) (i + 1) = idxs (fun i => hasQ c (sh s i) l) i ++ [(i : Int)] := by simp only [idxs]; rw [if_pos hQ]
          rw [eo, List.length_append]
          refine To.done [0, 3] rfl (by repeat (first | exact Sub.nil | refine Sub.cons rfl ?_)) ?_
          show [_, Blk.row (renL _ (_ ++ _)) _] = [_, Blk.row _ _]
          rw [renL_app, renL_pure, List.flatMap_append, List.map_append]
          rfl
        · skip
          have hQ : hasQ c (sh s i) l = false := decide_eq_false (by simp [ownS] at hc3; intro h; have := hc3; omega)
          refine AWp.skip ?_
          refine AWp.region ?_
          refine AList.c 72 rfl rfl rfl (OpJ.add rfl rfl rfl (i64ok ?_)) ?_
          · omega
          refine AList.c 45 rfl rfl rfl (OpJ.move rfl rfl) ?_
          refine AList.nil ?_
          refine ⟨i + 1, ?_, ?_, ?_⟩
          · omega
          · omega
          have eo : idxs (fun i => hasQ c (sh s i) l) (i + 1) = idxs (fun i => hasQ c (sh s i) l) i := by simp only [idxs]; rw [if_neg (by rw [hQ]; decide)]
          rw [eo]
          refine To.done [0, 1] rfl (Sub.cons rfl (Sub.cons (by show some (renV _ (accV 1 _)) = some _; rw [renV_acc (σ := pl [0, 1]) (j := 1) rfl]) (by repeat (first | exact Sub.nil | refine Sub.cons rfl ?_)))) (by show [_, renB _ (accB _ _ _)] = _; rw [renB_accB]; rfl)
      · skip
        obtain rfl : i = s.length := by have h := of_decide_eq_false hc2; omega
        refine AWp.exit ?_
        refine AWp.seq ?_
        refine AWp.region ?_
        refine AList.c 73 rfl rfl rfl (OpJ.move rfl rfl) ?_
        refine AList.c 6 rfl rfl rfl (OpJ.assign rfl rfl) ?_
        refine AList.c 7 rfl rfl rfl (OpJ.assign rfl rfl) ?_
        refine AList.nil ?_
        refine AWp.to (To.accD 6 1 (idxs (fun i => hasQ c (sh s i) l) s.length).length rfl rfl (fun h => by rw [List.length_eq_zero_iff.1 h]; rfl)) ?_
        refine AWp.ret ?_
        have eR : hasR c s l = ((idxs (fun i => hasQ c (sh s i) l) s.length), 0) := by unfold hasR hasE; rw [if_neg hE, if_pos e]
        rw [eR]
        exact Fin.many (xs := [intsV (idxs (fun i => hasQ c (sh s i) l) s.length), .int .i64 0]) rfl (⟨_, _, rfl, rfl, ⟨_, _, rfl, rfl, rfl⟩⟩) rfl
theorem ints_ok (a b : List Int) (ha : a.length ≤ bigN) (hb : b.length ≤ bigN) : Pure Tryz.prog 13 [intsV a, intsV b] (.bool (decide (a = b))) := by
  unfold bigN at ha hb
  refine Pure.start (N := 26) Tryz.func13 rfl rfl (Nat.le_of_ble_eq_true rfl) ?_
  refine AWp.seq ?_
  refine AWp.region ?_
  refine AList.c 4 rfl rfl rfl (OpJ.assign rfl rfl) ?_
  refine AList.nil ?_
  refine AWp.seq ?_
  refine AWp.seq ?_
  refine AWp.region ?_
  refine AList.c 6 rfl rfl rfl (OpJ.move rfl rfl) ?_
  refine AList.c 7 rfl rfl rfl (OpJ.lenSlice rfl rfl sl45 rfl) ?_
  refine AList.c 8 rfl rfl rfl (OpJ.move rfl rfl) ?_
  refine AList.c 9 rfl rfl rfl (OpJ.lenSlice rfl rfl sl45 rfl) ?_
  refine AList.c 10 rfl rfl rfl (OpJ.neq rfl rfl rfl) ?_
  refine AList.nil ?_
  refine AWp.cond _ rfl (fun hc0 => ?_) (fun hc0 => ?_)
  · skip
    refine AWp.seq ?_
    refine AWp.region ?_
    refine AList.c 4 rfl rfl rfl (OpJ.assign rfl rfl) ?_
    refine AList.nil ?_
    refine AWp.ret ?_
    refine Fin.oneE rfl rfl ?_
    rw [decide_eq_false (p := a = b) (fun h => by subst h; simp at hc0)]
  · skip
    have hl : a.length = b.length := by simp at hc0; omega
    refine AWp.skip ?_
    refine AWp.seq ?_
    refine AWp.seq ?_
    refine AWp.region ?_
    refine AList.c 5 rfl rfl rfl (OpJ.assign rfl rfl) ?_
    refine AList.nil ?_
    refine AWp.block ?_
    refine AWp.loopKL [0, 1] (fun g => [(5, .p (.int .i64 ((g : Nat) : Int)))]) (fun g => g ≤ a.length ∧ ∀ j, j < g → nt a j = nt b j) (fun g => a.length - g) 0 ⟨Nat.zero_le _, fun j hj => absurd hj (by omega)⟩ (Sub.cons rfl (Sub.nil)) (fun i hg => ?_)
    obtain ⟨hg1, hg2⟩ := hg
    refine AWp.seq ?_
    refine AWp.seq ?_
    refine AWp.region ?_
    refine AList.c 11 rfl rfl rfl (OpJ.move rfl rfl) ?_
    refine AList.c 12 rfl rfl rfl (OpJ.move rfl rfl) ?_
    refine AList.c 13 rfl rfl rfl (OpJ.lenSlice rfl rfl sl45 rfl) ?_
    refine AList.c 14 rfl rfl rfl (OpJ.lss rfl rfl rfl) ?_
    refine AList.nil ?_
    refine AWp.cond _ rfl (fun hc1 => ?_) (fun hc1 => ?_)
    · skip
      have hk0 : i < a.length := by have h := of_decide_eq_true hc1; omega
      refine AWp.skip ?_
      refine AWp.seq ?_
      refine AWp.block ?_
      refine AWp.seq ?_
      refine AWp.regionDraw 9 mixed (by kernel_rfl) (by decide) ?_
      refine AQuiet.cons 17 rfl rfl rfl (OpJ.move rfl rfl) ?_
      refine AQuiet.cons 18 rfl rfl rfl (OpJ.move rfl rfl) ?_
      refine AQuiet.cons 19 rfl rfl rfl (OpJ.indexG (g := nt a) (fun _ h => nt_get h) rfl rfl rfl sl45 el45 rfl (fun _ => rfl) (by decide) hk0) ?_
      refine AQuiet.cons 20 rfl rfl rfl (OpJ.load rfl rfl ty3 rfl) ?_
      refine AQuiet.cons 21 rfl rfl rfl (OpJ.move rfl rfl) ?_
      refine AQuiet.cons 22 rfl rfl rfl (OpJ.move rfl rfl) ?_
      refine AQuiet.cons 23 rfl rfl rfl (OpJ.indexG (g := nt b) (fun _ h => nt_get h) rfl rfl rfl sl45 el45 rfl (fun _ => rfl) (by decide) (by omega)) ?_
      refine AQuiet.cons 24 rfl rfl rfl (OpJ.load rfl rfl ty3 rfl) ?_
      refine AQuiet.cons 25 rfl rfl rfl (OpJ.neq rfl rfl rfl) ?_
      refine AQuiet.nil ?_
      refine AList.nil ?_
      refine AWp.cond _ rfl (fun hc2 => ?_) (fun hc2 => ?_)
      · skip
        refine AWp.seq ?_
        refine AWp.region ?_
        refine AList.c 4 rfl rfl rfl (OpJ.assign rfl rfl) ?_
        refine AList.nil ?_
        refine AWp.ret ?_
        refine Fin.oneE rfl rfl ?_
        rw [decide_eq_false (p := a = b) (fun h => by subst h; simp at hc2)]
      · skip
        have hst : nt a i = nt b i := by simpa using hc2
        refine AWp.skip ?_
        refine AWp.region ?_
        refine AList.c 15 rfl rfl rfl (OpJ.move rfl rfl) ?_
        refine AList.c 16 rfl rfl rfl (OpJ.add rfl rfl rfl (i64ok ?_)) ?_
        · omega
        refine AList.c 5 rfl rfl rfl (OpJ.assign rfl rfl) ?_
        refine AList.nil ?_
        refine ⟨i + 1, ?_, ?_, ?_⟩
        · refine ⟨by omega, fun j hj => ?_⟩
          rcases Nat.lt_succ_iff_lt_or_eq.1 hj with h1 | rfl
          · exact hg2 j h1
          · exact hst
        · omega
        exact To.done [] rfl (by repeat (first | exact Sub.nil | refine Sub.cons rfl ?_)) rfl
    · skip
      obtain rfl : i = a.length := by have h := of_decide_eq_false hc1; omega
      refine AWp.exit ?_
      refine AWp.seq ?_
      refine AWp.region ?_
      refine AList.c 4 rfl rfl rfl (OpJ.assign rfl rfl) ?_
      refine AList.nil ?_
      refine AWp.ret ?_
      refine Fin.oneE rfl rfl ?_
      rw [decide_eq_true (p := a = b) (nt_ext hl hg2)]
end Go.Proofs.YtbnemnhmejmeeaaGreatDoor.Sh
end
