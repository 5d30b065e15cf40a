/-
  Sales of one supply and one order; sets and how many are bad, in the other text.
-/
import Derived.Test.YtofenmailjdehaaDoorXoFacts
import Derived.Test.YtofenmailjdehaaDoorXr6
import Derived.Test.YtofenmailjdehaaDoorToP
import Derived.Test.YtofenmailjdehaaDoorAfV
set_option linter.unusedVariables false
set_option maxRecDepth 100000
set_option maxHeartbeats 4000000
set_option linter.unusedSimpArgs false
namespace Go.Proofs.YtofenmailjdehaaDoor
open Go.AF
theorem owithin_ok (n lo hi : Int) : Pure Tryd.prog 55 [.int .i64 n, .int .i64 lo, .int .i64 hi] (.bool (inB n lo hi)) := by
  refine Pure.start (N := 15) Tryd.func55 rfl rfl (Nat.le_of_ble_eq_true rfl) ?_
  refine AWp.seq ?_
  refine AWp.region ?_
  refine AList.c 6 rfl rfl rfl (OpJ.assign rfl rfl) ?_
  refine AList.nil ?_
  refine AWp.seq ?_
  refine AWp.region ?_
  refine AList.c 7 rfl rfl rfl (OpJ.move rfl rfl) ?_
  refine AList.c 8 rfl rfl rfl (OpJ.move rfl rfl) ?_
  refine AList.c 9 rfl rfl rfl (OpJ.leq rfl rfl rfl) ?_
  refine AList.c 10 rfl rfl rfl (OpJ.move rfl rfl) ?_
  refine AList.g 11 10 rfl rfl rfl rfl rfl rfl rfl [(0, _)] (fun h => And.intro (.inl rfl) (trivial)) (fun h => (OpJ.move rfl rfl)) ?_
  refine AList.g 12 10 rfl rfl rfl rfl rfl rfl rfl [(2, _)] (fun h => And.intro (.inl rfl) (trivial)) (fun h => (OpJ.move rfl rfl)) ?_
  refine AList.g 13 10 rfl rfl rfl rfl rfl rfl rfl [(11, _), (12, _)] (fun h => And.intro (.inr ⟨_, rfl, h⟩) (And.intro (.inr ⟨_, rfl, h⟩) (trivial))) (fun h => (OpJ.leq rfl rfl rfl)) ?_
  refine AList.c 14 rfl rfl rfl (OpJ.and_ rfl rfl rfl ?_) ?_
  · first | (intro h; rw [h]; rfl) | (intro h; simp_all)
  refine AList.c 6 rfl rfl rfl (OpJ.assign rfl rfl) ?_
  refine AList.nil ?_
  refine AWp.ret ?_
  exact Fin.one rfl (rfl)
theorem ospan_ok (lo hi a b : Int) : Pure Tryd.prog 56 [.agg [.int .i64 lo, .int .i64 hi], .int .i64 a, .int .i64 b] (.bool (spB lo hi a b)) := by
  refine Pure.start (N := 24) Tryd.func56 rfl rfl (Nat.le_of_ble_eq_true rfl) ?_
  refine AWp.seq ?_
  refine AWp.region ?_
  refine AList.c 3 rfl rfl rfl (OpJ.boxImm rfl rfl rfl) ?_
  refine AList.c 6 rfl rfl rfl (OpJ.assign rfl rfl) ?_
  refine AList.nil ?_
  refine AWp.seq ?_
  refine AWp.region ?_
  refine AList.c 7 rfl rfl rfl (OpJ.move rfl rfl) ?_
  refine AList.c 8 rfl rfl rfl (OpJ.fieldAddr rfl rfl fd40_0 rfl) ?_
  refine AList.c 9 rfl rfl rfl (OpJ.load rfl rfl ty3 rfl) ?_
  refine AList.c 10 rfl rfl rfl (OpJ.leq rfl rfl rfl) ?_
  refine AList.c 11 rfl rfl rfl (OpJ.move rfl rfl) ?_
  refine AList.g 12 11 rfl rfl rfl rfl rfl rfl rfl [(3, _)] (fun h => And.intro (.inl rfl) (trivial)) (fun h => (OpJ.fieldAddr rfl rfl fd40_0 rfl)) ?_
  refine AList.g 13 11 rfl rfl rfl rfl rfl rfl rfl [(12, _)] (fun h => And.intro (.inr ⟨_, rfl, h⟩) (trivial)) (fun h => (OpJ.load rfl rfl ty3 rfl)) ?_
  refine AList.g 14 11 rfl rfl rfl rfl rfl rfl rfl [(3, _)] (fun h => And.intro (.inl rfl) (trivial)) (fun h => (OpJ.fieldAddr rfl rfl fd40_1 rfl)) ?_
  refine AList.g 15 11 rfl rfl rfl rfl rfl rfl rfl [(14, _)] (fun h => And.intro (.inr ⟨_, rfl, h⟩) (trivial)) (fun h => (OpJ.load rfl rfl ty3 rfl)) ?_
  refine AList.g 16 11 rfl rfl rfl rfl rfl rfl rfl [(13, _), (15, _)] (fun h => And.intro (.inr ⟨_, rfl, h⟩) (And.intro (.inr ⟨_, rfl, h⟩) (trivial))) (fun h => (OpJ.leq rfl rfl rfl)) ?_
  refine AList.c 17 rfl rfl rfl (OpJ.and_ rfl rfl rfl ?_) ?_
  · first | (intro h; rw [h]; rfl) | (intro h; simp_all)
  refine AList.c 18 rfl rfl rfl (OpJ.move rfl rfl) ?_
  refine AList.g 19 18 rfl rfl rfl rfl rfl rfl rfl [(3, _)] (fun h => And.intro (.inl rfl) (trivial)) (fun h => (OpJ.fieldAddr rfl rfl fd40_1 rfl)) ?_
  refine AList.g 20 18 rfl rfl rfl rfl rfl rfl rfl [(19, _)] (fun h => And.intro (.inr ⟨_, rfl, h⟩) (trivial)) (fun h => (OpJ.load rfl rfl ty3 rfl)) ?_
  refine AList.g 21 18 rfl rfl rfl rfl rfl rfl rfl [(2, _)] (fun h => And.intro (.inl rfl) (trivial)) (fun h => (OpJ.move rfl rfl)) ?_
  refine AList.g 22 18 rfl rfl rfl rfl rfl rfl rfl [(20, _), (21, _)] (fun h => And.intro (.inr ⟨_, rfl, h⟩) (And.intro (.inr ⟨_, rfl, h⟩) (trivial))) (fun h => (OpJ.leq rfl rfl rfl)) ?_
  refine AList.c 23 rfl rfl rfl (OpJ.and_ rfl rfl rfl ?_) ?_
  · first | (intro h; rw [h]; rfl) | (intro h; simp_all)
  refine AList.c 6 rfl rfl rfl (OpJ.assign rfl rfl) ?_
  refine AList.nil ?_
  refine AWp.ret ?_
  exact Fin.one rfl (rfl)
theorem isu_ok (x : Sup) : Pure Tryd.prog 54 [.agg x.cells] (.bool (supB x)) := by
  refine Pure.start (N := 19) Tryd.func54 rfl rfl (Nat.le_of_ble_eq_true rfl) ?_
  refine AWp.seq ?_
  refine AWp.region ?_
  refine AList.c 1 rfl rfl rfl (OpJ.boxImm rfl rfl rfl) ?_
  refine AList.c 2 rfl rfl rfl (OpJ.assign rfl rfl) ?_
  refine AList.nil ?_
  refine AWp.seq ?_
  refine AWp.region ?_
  refine AList.c 3 rfl rfl rfl (OpJ.fieldAddr rfl rfl fd55_0 rfl) ?_
  refine AList.c 4 rfl rfl rfl (OpJ.load (v := .p (.int .i64 x.sh)) rfl rfl ty3 rfl) ?_
  refine AList.c 5 rfl rfl rfl (OpJ.callP (owithin_ok _ _ _) rfl rfl rfl rfl rf55) ?_
  refine AList.c 6 rfl rfl rfl (OpJ.not_ rfl rfl) ?_
  refine AList.c 7 rfl rfl rfl (OpJ.move rfl rfl) ?_
  refine AList.g 8 7 rfl rfl rfl rfl rfl rfl rfl [(1, _)] (fun h => And.intro (.inl rfl) (trivial)) (fun h => (OpJ.fieldAddr rfl rfl fd55_1 rfl)) ?_
  refine AList.g 9 7 rfl rfl rfl rfl rfl rfl rfl [(8, _)] (fun h => And.intro (.inr ⟨_, rfl, h⟩) (trivial)) (fun h => (OpJ.load (v := .p (.agg [.int .i64 x.lo, .int .i64 x.hi])) rfl rfl ty40 rfl)) ?_
  refine AList.g 10 7 rfl rfl rfl rfl rfl rfl rfl [(9, _)] (fun h => And.intro (.inr ⟨_, rfl, h⟩) (trivial)) (fun h => (OpJ.callP (ospan_ok _ _ _ _) rfl rfl rfl rfl rf56)) ?_
  refine AList.g 11 7 rfl rfl rfl rfl rfl rfl rfl [(10, _)] (fun h => And.intro (.inr ⟨_, rfl, h⟩) (trivial)) (fun h => (OpJ.not_ rfl rfl)) ?_
  refine AList.c 12 rfl rfl rfl (OpJ.or_ rfl rfl rfl ?_) ?_
  · first | (intro h; rw [h]; rfl) | (intro h; simp_all)
  refine AList.c 13 rfl rfl rfl (OpJ.move rfl rfl) ?_
  refine AList.g 14 13 rfl rfl rfl rfl rfl rfl rfl [(1, _)] (fun h => And.intro (.inl rfl) (trivial)) (fun h => (OpJ.fieldAddr rfl rfl fd55_2 rfl)) ?_
  refine AList.g 15 13 rfl rfl rfl rfl rfl rfl rfl [(14, _)] (fun h => And.intro (.inr ⟨_, rfl, h⟩) (trivial)) (fun h => (OpJ.load (v := .p (.agg [.int .i64 x.rlo, .int .i64 x.rhi])) rfl rfl ty40 rfl)) ?_
  refine AList.g 16 13 rfl rfl rfl rfl rfl rfl rfl [(15, _)] (fun h => And.intro (.inr ⟨_, rfl, h⟩) (trivial)) (fun h => (OpJ.callP (ospan_ok _ _ _ _) rfl rfl rfl rfl rf56)) ?_
  refine AList.g 17 13 rfl rfl rfl rfl rfl rfl rfl [(16, _)] (fun h => And.intro (.inr ⟨_, rfl, h⟩) (trivial)) (fun h => (OpJ.not_ rfl rfl)) ?_
  refine AList.c 18 rfl rfl rfl (OpJ.or_ rfl rfl rfl ?_) ?_
  · first | (intro h; rw [h]; rfl) | (intro h; simp_all)
  refine AList.c 2 rfl rfl rfl (OpJ.assign rfl rfl) ?_
  refine AList.nil ?_
  refine AWp.ret ?_
  exact Fin.one rfl (rfl)
theorem iso_ok (x : Ord) : Pure Tryd.prog 57 [.agg x.cells] (.bool (ordB x)) := by
  refine Pure.start (N := 25) Tryd.func57 rfl rfl (Nat.le_of_ble_eq_true rfl) ?_
  refine AWp.seq ?_
  refine AWp.region ?_
  refine AList.c 1 rfl rfl rfl (OpJ.boxImm rfl rfl rfl) ?_
  refine AList.c 2 rfl rfl rfl (OpJ.assign rfl rfl) ?_
  refine AList.nil ?_
  refine AWp.seq ?_
  refine AWp.region ?_
  refine AList.c 3 rfl rfl rfl (OpJ.fieldAddr rfl rfl fd58_0 rfl) ?_
  refine AList.c 4 rfl rfl rfl (OpJ.load (v := .p (.int .i64 x.os)) rfl rfl ty3 rfl) ?_
  refine AList.c 5 rfl rfl rfl (OpJ.callP (owithin_ok _ _ _) rfl rfl rfl rfl rf55) ?_
  refine AList.c 6 rfl rfl rfl (OpJ.not_ rfl rfl) ?_
  refine AList.c 7 rfl rfl rfl (OpJ.move rfl rfl) ?_
  refine AList.g 8 7 rfl rfl rfl rfl rfl rfl rfl [(1, _)] (fun h => And.intro (.inl rfl) (trivial)) (fun h => (OpJ.fieldAddr rfl rfl fd58_1 rfl)) ?_
  refine AList.g 9 7 rfl rfl rfl rfl rfl rfl rfl [(8, _)] (fun h => And.intro (.inr ⟨_, rfl, h⟩) (trivial)) (fun h => (OpJ.load (v := .p (.int .i64 x.n)) rfl rfl ty3 rfl)) ?_
  refine AList.g 10 7 rfl rfl rfl rfl rfl rfl rfl [(9, _)] (fun h => And.intro (.inr ⟨_, rfl, h⟩) (trivial)) (fun h => (OpJ.callP (owithin_ok _ _ _) rfl rfl rfl rfl rf55)) ?_
  refine AList.g 11 7 rfl rfl rfl rfl rfl rfl rfl [(10, _)] (fun h => And.intro (.inr ⟨_, rfl, h⟩) (trivial)) (fun h => (OpJ.not_ rfl rfl)) ?_
  refine AList.c 12 rfl rfl rfl (OpJ.or_ rfl rfl rfl ?_) ?_
  · first | (intro h; rw [h]; rfl) | (intro h; simp_all)
  refine AList.c 13 rfl rfl rfl (OpJ.move rfl rfl) ?_
  refine AList.g 14 13 rfl rfl rfl rfl rfl rfl rfl [(1, _)] (fun h => And.intro (.inl rfl) (trivial)) (fun h => (OpJ.fieldAddr rfl rfl fd58_2 rfl)) ?_
  refine AList.g 15 13 rfl rfl rfl rfl rfl rfl rfl [(14, _)] (fun h => And.intro (.inr ⟨_, rfl, h⟩) (trivial)) (fun h => (OpJ.load (v := .p (.int .i64 x.du)) rfl rfl ty3 rfl)) ?_
  refine AList.g 16 13 rfl rfl rfl rfl rfl rfl rfl [(15, _)] (fun h => And.intro (.inr ⟨_, rfl, h⟩) (trivial)) (fun h => (OpJ.callP (owithin_ok _ _ _) rfl rfl rfl rfl rf55)) ?_
  refine AList.g 17 13 rfl rfl rfl rfl rfl rfl rfl [(16, _)] (fun h => And.intro (.inr ⟨_, rfl, h⟩) (trivial)) (fun h => (OpJ.not_ rfl rfl)) ?_
  refine AList.c 18 rfl rfl rfl (OpJ.or_ rfl rfl rfl ?_) ?_
  · first | (intro h; rw [h]; rfl) | (intro h; simp_all)
  refine AList.c 19 rfl rfl rfl (OpJ.move rfl rfl) ?_
  refine AList.g 20 19 rfl rfl rfl rfl rfl rfl rfl [(1, _)] (fun h => And.intro (.inl rfl) (trivial)) (fun h => (OpJ.fieldAddr rfl rfl fd58_3 rfl)) ?_
  refine AList.g 21 19 rfl rfl rfl rfl rfl rfl rfl [(20, _)] (fun h => And.intro (.inr ⟨_, rfl, h⟩) (trivial)) (fun h => (OpJ.load (v := .p (.int .i64 x.pr)) rfl rfl ty3 rfl)) ?_
  refine AList.g 22 19 rfl rfl rfl rfl rfl rfl rfl [(21, _)] (fun h => And.intro (.inr ⟨_, rfl, h⟩) (trivial)) (fun h => (OpJ.callP (owithin_ok _ _ _) rfl rfl rfl rfl rf55)) ?_
  refine AList.g 23 19 rfl rfl rfl rfl rfl rfl rfl [(22, _)] (fun h => And.intro (.inr ⟨_, rfl, h⟩) (trivial)) (fun h => (OpJ.not_ rfl rfl)) ?_
  refine AList.c 24 rfl rfl rfl (OpJ.or_ rfl rfl rfl ?_) ?_
  · first | (intro h; rw [h]; rfl) | (intro h; simp_all)
  refine AList.c 2 rfl rfl rfl (OpJ.assign rfl rfl) ?_
  refine AList.nil ?_
  refine AWp.ret ?_
  exact Fin.one rfl (rfl)
theorem indexSu_ok (xs : List Sup) (f : PV) (p : Sup → Bool) (hx : xs.length ≤ bigN) (hf : ∀ x ∈ xs, FPure Tryd.prog f [.agg x.cells] (.bool (p x))) : Pure Tryd.prog 74 [.is (xs.flatMap Sup.cells) xs.length, f] (.int .i64 (idxF p xs)) := by
  unfold bigN at hx
  refine Pure.start (N := 19) Tryd.func74 rfl rfl (Nat.le_of_ble_eq_true rfl) ?_
  refine AWp.seq ?_
  refine AWp.region ?_
  refine AList.c 4 rfl rfl rfl (OpJ.assign rfl rfl) ?_
  refine AList.nil ?_
  refine AWp.seq ?_
  refine AWp.seq ?_
  refine AWp.region ?_
  refine AList.c 6 rfl rfl rfl (OpJ.move rfl rfl) ?_
  refine AList.c 7 rfl rfl rfl (OpJ.lenSlice rfl rfl sl56 rfl) ?_
  refine AList.c 8 rfl rfl rfl (OpJ.move rfl rfl) ?_
  refine AList.nil ?_
  refine AWp.block ?_
  refine AWp.loopK [4, 5, 8, 9, 10, 11, 12, 13, 14, 15, 16, 17, 18] (fun g => [(8, .p (.int .i64 ((g : Nat) : Int)))]) (fun g => g ≤ xs.length ∧ ∀ j (hj : j < g) (h : g ≤ xs.length), p (xs[j]'(by omega)) = false) (fun g => xs.length - g) 0 ⟨Nat.zero_le _, fun j hj => absurd hj (by omega)⟩ (Sub.cons rfl (Sub.nil)) (fun i hg => ?_)
  obtain ⟨hg1, hg2⟩ := hg
  refine AWp.seq ?_
  refine AWp.region ?_
  refine AList.c 9 rfl rfl rfl (OpJ.lss rfl rfl rfl) ?_
  refine AList.nil ?_
  refine AWp.seq ?_
  refine AWp.cond _ rfl (fun hc0 => ?_) (fun hc0 => ?_)
  · skip
    refine AWp.skip ?_
    refine AWp.seq ?_
    refine AWp.block ?_
    refine AWp.seq ?_
    refine AWp.region ?_
    refine AList.c 10 rfl rfl rfl (OpJ.move rfl rfl) ?_
    refine AList.c 5 rfl rfl rfl (OpJ.assign rfl rfl) ?_
    refine AList.nil ?_
    refine AWp.seq ?_
    refine AWp.region ?_
    refine AList.c 11 rfl rfl rfl (OpJ.move rfl rfl) ?_
    refine AList.c 12 rfl rfl rfl (OpJ.move rfl rfl) ?_
    refine AList.c 13 rfl rfl rfl (OpJ.move rfl rfl) ?_
    refine AList.c 14 rfl rfl rfl (OpJ.indexEl rfl rfl rfl sl56 el56 rfl (fun _ => rfl) (by decide) ?_) ?_
    · simp at hc0; omega
    refine AList.c 15 rfl rfl rfl (OpJ.load rfl rfl ty55 rfl) ?_
    refine AList.c 16 rfl rfl rfl (OpJ.callF (hf _ (List.getElem_mem _)) rfl rfl rfl) ?_
    refine AList.nil ?_
    refine AWp.cond _ rfl (fun hc1 => ?_) (fun hc1 => ?_)
    · skip
      refine AWp.seq ?_
      refine AWp.region ?_
      refine AList.c 17 rfl rfl rfl (OpJ.move rfl rfl) ?_
      refine AList.c 4 rfl rfl rfl (OpJ.assign rfl rfl) ?_
      refine AList.nil ?_
      refine AWp.ret ?_
      refine Fin.oneE rfl rfl ?_
      rw [idxF_at p xs i (by simp at hc0; omega) (fun j hj => hg2 j hj hg1) hc1]
    · skip
      refine AWp.skip ?_
      refine AWp.region ?_
      refine AList.c 18 rfl rfl rfl (OpJ.add rfl rfl rfl (i64ok ?_)) ?_
      · simp at hc0; omega
      refine AList.c 8 rfl rfl rfl (OpJ.move rfl rfl) ?_
      refine AList.nil ?_
      refine ⟨i + 1, ?_, ?_, ?_⟩
      · refine ⟨by simp at hc0; omega, fun j hj h => ?_⟩
        rcases Nat.lt_succ_iff_lt_or_eq.1 hj with h1 | rfl
        · exact hg2 j h1 hg1
        · exact hc1
      · simp at hc0; omega
      exact To.done [] rfl (by repeat (first | exact Sub.nil | refine Sub.cons rfl ?_)) rfl
  · skip
    refine AWp.exit ?_
    refine AWp.seq ?_
    refine AWp.region ?_
    refine AList.c 4 rfl rfl rfl (OpJ.assign rfl rfl) ?_
    refine AList.nil ?_
    refine AWp.ret ?_
    refine Fin.oneE rfl rfl ?_
    rw [idxF_none p xs (fun j hj => hg2 j (by simp at hc0; omega) hg1)]
theorem containsSu_ok (xs : List Sup) (f : PV) (p : Sup → Bool) (hx : xs.length ≤ bigN) (hf : ∀ x ∈ xs, FPure Tryd.prog f [.agg x.cells] (.bool (p x))) : Pure Tryd.prog 58 [.is (xs.flatMap Sup.cells) xs.length, f] (.bool (xs.any p)) := by
  refine Pure.start (N := 9) Tryd.func58 rfl rfl (Nat.le_of_ble_eq_true rfl) ?_
  refine AWp.seq ?_
  refine AWp.region ?_
  refine AList.c 4 rfl rfl rfl (OpJ.assign rfl rfl) ?_
  refine AList.nil ?_
  refine AWp.seq ?_
  refine AWp.region ?_
  refine AList.c 5 rfl rfl rfl (OpJ.move rfl rfl) ?_
  refine AList.c 6 rfl rfl rfl (OpJ.move rfl rfl) ?_
  refine AList.c 7 rfl rfl rfl (OpJ.callP (indexSu_ok _ _ p ?_ ?_) rfl rfl rfl rfl rf74) ?_
  · exact hx
  · exact hf
  refine AList.c 8 rfl rfl rfl (OpJ.geq rfl rfl rfl) ?_
  refine AList.c 4 rfl rfl rfl (OpJ.assign rfl rfl) ?_
  refine AList.nil ?_
  refine AWp.ret ?_
  refine Fin.oneE rfl rfl ?_
  rw [idxF_any]
theorem indexOd_ok (xs : List Ord) (f : PV) (p : Ord → Bool) (hx : xs.length ≤ bigN) (hf : ∀ x ∈ xs, FPure Tryd.prog f [.agg x.cells] (.bool (p x))) : Pure Tryd.prog 75 [.is (xs.flatMap Ord.cells) xs.length, f] (.int .i64 (idxF p xs)) := by
  unfold bigN at hx
  refine Pure.start (N := 19) Tryd.func75 rfl rfl (Nat.le_of_ble_eq_true rfl) ?_
  refine AWp.seq ?_
  refine AWp.region ?_
  refine AList.c 4 rfl rfl rfl (OpJ.assign rfl rfl) ?_
  refine AList.nil ?_
  refine AWp.seq ?_
  refine AWp.seq ?_
  refine AWp.region ?_
  refine AList.c 6 rfl rfl rfl (OpJ.move rfl rfl) ?_
  refine AList.c 7 rfl rfl rfl (OpJ.lenSlice rfl rfl sl59 rfl) ?_
  refine AList.c 8 rfl rfl rfl (OpJ.move rfl rfl) ?_
  refine AList.nil ?_
  refine AWp.block ?_
  refine AWp.loopK [4, 5, 8, 9, 10, 11, 12, 13, 14, 15, 16, 17, 18] (fun g => [(8, .p (.int .i64 ((g : Nat) : Int)))]) (fun g => g ≤ xs.length ∧ ∀ j (hj : j < g) (h : g ≤ xs.length), p (xs[j]'(by omega)) = false) (fun g => xs.length - g) 0 ⟨Nat.zero_le _, fun j hj => absurd hj (by omega)⟩ (Sub.cons rfl (Sub.nil)) (fun i hg => ?_)
  obtain ⟨hg1, hg2⟩ := hg
  refine AWp.seq ?_
  refine AWp.region ?_
  refine AList.c 9 rfl rfl rfl (OpJ.lss rfl rfl rfl) ?_
  refine AList.nil ?_
  refine AWp.seq ?_
  refine AWp.cond _ rfl (fun hc0 => ?_) (fun hc0 => ?_)
  · skip
    refine AWp.skip ?_
    refine AWp.seq ?_
    refine AWp.block ?_
    refine AWp.seq ?_
    refine AWp.region ?_
    refine AList.c 10 rfl rfl rfl (OpJ.move rfl rfl) ?_
    refine AList.c 5 rfl rfl rfl (OpJ.assign rfl rfl) ?_
    refine AList.nil ?_
    refine AWp.seq ?_
    refine AWp.region ?_
    refine AList.c 11 rfl rfl rfl (OpJ.move rfl rfl) ?_
    refine AList.c 12 rfl rfl rfl (OpJ.move rfl rfl) ?_
    refine AList.c 13 rfl rfl rfl (OpJ.move rfl rfl) ?_
    refine AList.c 14 rfl rfl rfl (OpJ.indexEl rfl rfl rfl sl59 el59 rfl (fun _ => rfl) (by decide) ?_) ?_
    · simp at hc0; omega
    refine AList.c 15 rfl rfl rfl (OpJ.load rfl rfl ty58 rfl) ?_
    refine AList.c 16 rfl rfl rfl (OpJ.callF (hf _ (List.getElem_mem _)) rfl rfl rfl) ?_
    refine AList.nil ?_
    refine AWp.cond _ rfl (fun hc1 => ?_) (fun hc1 => ?_)
    · skip
      refine AWp.seq ?_
      refine AWp.region ?_
      refine AList.c 17 rfl rfl rfl (OpJ.move rfl rfl) ?_
      refine AList.c 4 rfl rfl rfl (OpJ.assign rfl rfl) ?_
      refine AList.nil ?_
      refine AWp.ret ?_
      refine Fin.oneE rfl rfl ?_
      rw [idxF_at p xs i (by simp at hc0; omega) (fun j hj => hg2 j hj hg1) hc1]
    · skip
      refine AWp.skip ?_
      refine AWp.region ?_
      refine AList.c 18 rfl rfl rfl (OpJ.add rfl rfl rfl (i64ok ?_)) ?_
      · simp at hc0; omega
      refine AList.c 8 rfl rfl rfl (OpJ.move rfl rfl) ?_
      refine AList.nil ?_
      refine ⟨i + 1, ?_, ?_, ?_⟩
      · refine ⟨by simp at hc0; omega, fun j hj h => ?_⟩
        rcases Nat.lt_succ_iff_lt_or_eq.1 hj with h1 | rfl
        · exact hg2 j h1 hg1
        · exact hc1
      · simp at hc0; omega
      exact To.done [] rfl (by repeat (first | exact Sub.nil | refine Sub.cons rfl ?_)) rfl
  · skip
    refine AWp.exit ?_
    refine AWp.seq ?_
    refine AWp.region ?_
    refine AList.c 4 rfl rfl rfl (OpJ.assign rfl rfl) ?_
    refine AList.nil ?_
    refine AWp.ret ?_
    refine Fin.oneE rfl rfl ?_
    rw [idxF_none p xs (fun j hj => hg2 j (by simp at hc0; omega) hg1)]
theorem containsOd_ok (xs : List Ord) (f : PV) (p : Ord → Bool) (hx : xs.length ≤ bigN) (hf : ∀ x ∈ xs, FPure Tryd.prog f [.agg x.cells] (.bool (p x))) : Pure Tryd.prog 59 [.is (xs.flatMap Ord.cells) xs.length, f] (.bool (xs.any p)) := by
  refine Pure.start (N := 9) Tryd.func59 rfl rfl (Nat.le_of_ble_eq_true rfl) ?_
  refine AWp.seq ?_
  refine AWp.region ?_
  refine AList.c 4 rfl rfl rfl (OpJ.assign rfl rfl) ?_
  refine AList.nil ?_
  refine AWp.seq ?_
  refine AWp.region ?_
  refine AList.c 5 rfl rfl rfl (OpJ.move rfl rfl) ?_
  refine AList.c 6 rfl rfl rfl (OpJ.move rfl rfl) ?_
  refine AList.c 7 rfl rfl rfl (OpJ.callP (indexOd_ok _ _ p ?_ ?_) rfl rfl rfl rfl rf75) ?_
  · exact hx
  · exact hf
  refine AList.c 8 rfl rfl rfl (OpJ.geq rfl rfl rfl) ?_
  refine AList.c 4 rfl rfl rfl (OpJ.assign rfl rfl) ?_
  refine AList.nil ?_
  refine AWp.ret ?_
  refine Fin.oneE rfl rfl ?_
  rw [idxF_any]
theorem isSale_ok (x : Sup) (o : Ord) : Pure Tryd.prog 29 [saleV x o] (.bool (!supB x && !ordB o)) := by
  refine Pure.start (N := 29) Tryd.func29 rfl rfl (Nat.le_of_ble_eq_true rfl) ?_
  refine AWp.seq ?_
  refine AWp.region ?_
  refine AList.c 1 rfl rfl rfl (OpJ.boxImm rfl rfl rfl) ?_
  refine AList.c 2 rfl rfl rfl (OpJ.assign rfl rfl) ?_
  refine AList.nil ?_
  refine AWp.seq ?_
  refine AWp.region ?_
  refine AList.c 3 rfl rfl rfl (OpJ.assign rfl rfl) ?_
  refine AList.nil ?_
  refine AWp.seq ?_
  refine AWp.region ?_
  refine AList.c 4 rfl rfl rfl (OpJ.assign rfl rfl) ?_
  refine AList.nil ?_
  refine AWp.seq ?_
  refine AWp.region ?_
  refine AList.c 5 rfl rfl rfl (OpJ.fieldAddr rfl rfl fd61_0 rfl) ?_
  refine AList.c 6 rfl rfl rfl (OpJ.load (v := .p (supsV [x])) rfl rfl ty56 rfl) ?_
  refine AList.c 7 rfl rfl rfl (OpJ.lenSlice rfl rfl sl56 rfl) ?_
  refine AList.c 8 rfl rfl rfl (OpJ.leq rfl rfl rfl) ?_
  refine AList.c 9 rfl rfl rfl (OpJ.move rfl rfl) ?_
  refine AList.g 10 9 rfl rfl rfl rfl rfl rfl rfl [(1, _)] (fun h => And.intro (.inl rfl) (trivial)) (fun h => (OpJ.fieldAddr rfl rfl fd61_1 rfl)) ?_
  refine AList.g 11 9 rfl rfl rfl rfl rfl rfl rfl [(10, _)] (fun h => And.intro (.inr ⟨_, rfl, h⟩) (trivial)) (fun h => (OpJ.load (v := .p (ordsV [o])) rfl rfl ty59 rfl)) ?_
  refine AList.g 12 9 rfl rfl rfl rfl rfl rfl rfl [(11, _)] (fun h => And.intro (.inr ⟨_, rfl, h⟩) (trivial)) (fun h => (OpJ.lenSlice rfl rfl sl59 rfl)) ?_
  refine AList.g 13 9 rfl rfl rfl rfl rfl rfl rfl [(12, _)] (fun h => And.intro (.inr ⟨_, rfl, h⟩) (trivial)) (fun h => (OpJ.leq rfl rfl rfl)) ?_
  refine AList.c 14 rfl rfl rfl (OpJ.and_ rfl rfl rfl ?_) ?_
  · first | (intro h; rw [h]; rfl) | (intro h; simp_all)
  refine AList.c 15 rfl rfl rfl (OpJ.move rfl rfl) ?_
  refine AList.g 16 15 rfl rfl rfl rfl rfl rfl rfl [(1, _)] (fun h => And.intro (.inl rfl) (trivial)) (fun h => (OpJ.fieldAddr rfl rfl fd61_0 rfl)) ?_
  refine AList.g 17 15 rfl rfl rfl rfl rfl rfl rfl [(16, _)] (fun h => And.intro (.inr ⟨_, rfl, h⟩) (trivial)) (fun h => (OpJ.load (v := .p (supsV [x])) rfl rfl ty56 rfl)) ?_
  refine AList.g 18 15 rfl rfl rfl rfl rfl rfl rfl [(3, _)] (fun h => And.intro (.inl rfl) (trivial)) (fun h => (OpJ.move rfl rfl)) ?_
  refine AList.g 19 15 rfl rfl rfl rfl rfl rfl rfl [(17, _), (18, _)] (fun h => And.intro (.inr ⟨_, rfl, h⟩) (And.intro (.inr ⟨_, rfl, h⟩) (trivial))) (fun h => (OpJ.callP (containsSu_ok [x] _ supB (show 1 ≤ bigN by decide) (fun y _ => ⟨54, [.agg y.cells], rfl, rf54, isu_ok y⟩)) rfl rfl rfl rfl rf58)) ?_
  refine AList.g 20 15 rfl rfl rfl rfl rfl rfl rfl [(19, _)] (fun h => And.intro (.inr ⟨_, rfl, h⟩) (trivial)) (fun h => (OpJ.not_ rfl rfl)) ?_
  refine AList.c 21 rfl rfl rfl (OpJ.and_ rfl rfl rfl ?_) ?_
  · first | (intro h; rw [h]; rfl) | (intro h; simp_all)
  refine AList.c 22 rfl rfl rfl (OpJ.move rfl rfl) ?_
  refine AList.g 23 22 rfl rfl rfl rfl rfl rfl rfl [(1, _)] (fun h => And.intro (.inl rfl) (trivial)) (fun h => (OpJ.fieldAddr rfl rfl fd61_1 rfl)) ?_
  refine AList.g 24 22 rfl rfl rfl rfl rfl rfl rfl [(23, _)] (fun h => And.intro (.inr ⟨_, rfl, h⟩) (trivial)) (fun h => (OpJ.load (v := .p (ordsV [o])) rfl rfl ty59 rfl)) ?_
  refine AList.g 25 22 rfl rfl rfl rfl rfl rfl rfl [(4, _)] (fun h => And.intro (.inl rfl) (trivial)) (fun h => (OpJ.move rfl rfl)) ?_
  refine AList.g 26 22 rfl rfl rfl rfl rfl rfl rfl [(24, _), (25, _)] (fun h => And.intro (.inr ⟨_, rfl, h⟩) (And.intro (.inr ⟨_, rfl, h⟩) (trivial))) (fun h => (OpJ.callP (containsOd_ok [o] _ ordB (show 1 ≤ bigN by decide) (fun y _ => ⟨57, [.agg y.cells], rfl, rf57, iso_ok y⟩)) rfl rfl rfl rfl rf59)) ?_
  refine AList.g 27 22 rfl rfl rfl rfl rfl rfl rfl [(26, _)] (fun h => And.intro (.inr ⟨_, rfl, h⟩) (trivial)) (fun h => (OpJ.not_ rfl rfl)) ?_
  refine AList.c 28 rfl rfl rfl (OpJ.and_ rfl rfl rfl ?_) ?_
  · first | (intro h; rw [h]; rfl) | (intro h; simp_all)
  refine AList.c 2 rfl rfl rfl (OpJ.assign rfl rfl) ?_
  refine AList.nil ?_
  refine AWp.ret ?_
  refine Fin.oneE rfl rfl ?_
  simp
theorem wmany_ok (x : Sup) : Pure Tryd.prog 99 [.agg [], .agg x.cells] (.int .i64 x.lo) := by
  refine Pure.start (N := 8) Tryd.func99 rfl rfl (Nat.le_of_ble_eq_true rfl) ?_
  refine AWp.seq ?_
  refine AWp.region ?_
  refine AList.c 2 rfl rfl rfl (OpJ.boxImm rfl rfl rfl) ?_
  refine AList.c 3 rfl rfl rfl (OpJ.boxImm rfl rfl rfl) ?_
  refine AList.c 4 rfl rfl rfl (OpJ.assign rfl rfl) ?_
  refine AList.nil ?_
  refine AWp.seq ?_
  refine AWp.region ?_
  refine AList.c 5 rfl rfl rfl (OpJ.fieldAddr rfl rfl fd55_1 rfl) ?_
  refine AList.c 6 rfl rfl rfl (OpJ.fieldAddr rfl rfl fd40_0 rfl) ?_
  refine AList.c 7 rfl rfl rfl (OpJ.load (v := .p (.int .i64 x.lo)) rfl rfl ty3 rfl) ?_
  refine AList.c 4 rfl rfl rfl (OpJ.assign rfl rfl) ?_
  refine AList.nil ?_
  refine AWp.ret ?_
  exact Fin.one rfl (rfl)
theorem wready_ok (x : Sup) : Pure Tryd.prog 100 [.agg [], .agg x.cells] (.int .i64 x.rhi) := by
  refine Pure.start (N := 8) Tryd.func100 rfl rfl (Nat.le_of_ble_eq_true rfl) ?_
  refine AWp.seq ?_
  refine AWp.region ?_
  refine AList.c 2 rfl rfl rfl (OpJ.boxImm rfl rfl rfl) ?_
  refine AList.c 3 rfl rfl rfl (OpJ.boxImm rfl rfl rfl) ?_
  refine AList.c 4 rfl rfl rfl (OpJ.assign rfl rfl) ?_
  refine AList.nil ?_
  refine AWp.seq ?_
  refine AWp.region ?_
  refine AList.c 5 rfl rfl rfl (OpJ.fieldAddr rfl rfl fd55_2 rfl) ?_
  refine AList.c 6 rfl rfl rfl (OpJ.fieldAddr rfl rfl fd40_1 rfl) ?_
  refine AList.c 7 rfl rfl rfl (OpJ.load (v := .p (.int .i64 x.rhi)) rfl rfl ty3 rfl) ?_
  refine AList.c 4 rfl rfl rfl (OpJ.assign rfl rfl) ?_
  refine AList.nil ?_
  refine AWp.ret ?_
  exact Fin.one rfl (rfl)
theorem bmany_ok (x : Sup) : Pure Tryd.prog 101 [.agg [], .agg x.cells] (.int .i64 x.hi) := by
  refine Pure.start (N := 8) Tryd.func101 rfl rfl (Nat.le_of_ble_eq_true rfl) ?_
  refine AWp.seq ?_
  refine AWp.region ?_
  refine AList.c 2 rfl rfl rfl (OpJ.boxImm rfl rfl rfl) ?_
  refine AList.c 3 rfl rfl rfl (OpJ.boxImm rfl rfl rfl) ?_
  refine AList.c 4 rfl rfl rfl (OpJ.assign rfl rfl) ?_
  refine AList.nil ?_
  refine AWp.seq ?_
  refine AWp.region ?_
  refine AList.c 5 rfl rfl rfl (OpJ.fieldAddr rfl rfl fd55_1 rfl) ?_
  refine AList.c 6 rfl rfl rfl (OpJ.fieldAddr rfl rfl fd40_1 rfl) ?_
  refine AList.c 7 rfl rfl rfl (OpJ.load (v := .p (.int .i64 x.hi)) rfl rfl ty3 rfl) ?_
  refine AList.c 4 rfl rfl rfl (OpJ.assign rfl rfl) ?_
  refine AList.nil ?_
  refine AWp.ret ?_
  exact Fin.one rfl (rfl)
theorem bready_ok (x : Sup) : Pure Tryd.prog 102 [.agg [], .agg x.cells] (.int .i64 x.rlo) := by
  refine Pure.start (N := 8) Tryd.func102 rfl rfl (Nat.le_of_ble_eq_true rfl) ?_
  refine AWp.seq ?_
  refine AWp.region ?_
  refine AList.c 2 rfl rfl rfl (OpJ.boxImm rfl rfl rfl) ?_
  refine AList.c 3 rfl rfl rfl (OpJ.boxImm rfl rfl rfl) ?_
  refine AList.c 4 rfl rfl rfl (OpJ.assign rfl rfl) ?_
  refine AList.nil ?_
  refine AWp.seq ?_
  refine AWp.region ?_
  refine AList.c 5 rfl rfl rfl (OpJ.fieldAddr rfl rfl fd55_2 rfl) ?_
  refine AList.c 6 rfl rfl rfl (OpJ.fieldAddr rfl rfl fd40_0 rfl) ?_
  refine AList.c 7 rfl rfl rfl (OpJ.load (v := .p (.int .i64 x.rlo)) rfl rfl ty3 rfl) ?_
  refine AList.c 4 rfl rfl rfl (OpJ.assign rfl rfl) ?_
  refine AList.nil ?_
  refine AWp.ret ?_
  exact Fin.one rfl (rfl)
theorem same_ok (n : Int) : Pure Tryd.prog 63 [.int .i64 n] (.int .i64 n) := by
  refine Pure.start (N := 4) Tryd.func63 rfl rfl (Nat.le_of_ble_eq_true rfl) ?_
  refine AWp.seq ?_
  refine AWp.region ?_
  refine AList.c 2 rfl rfl rfl (OpJ.assign rfl rfl) ?_
  refine AList.nil ?_
  refine AWp.seq ?_
  refine AWp.region ?_
  refine AList.c 3 rfl rfl rfl (OpJ.move rfl rfl) ?_
  refine AList.c 2 rfl rfl rfl (OpJ.assign rfl rfl) ?_
  refine AList.nil ?_
  refine AWp.ret ?_
  exact Fin.one rfl (rfl)
theorem ohas_ok (s n : Nat) (hs : s < 256) : Pure Tryd.prog 62 [.int .i64 (s : Int), .int .i64 (n : Int)] (.bool (s.testBit n)) := by
  have hle := Nat.div_le_self s (2 ^ n)
  refine Pure.start (N := 10) Tryd.func62 rfl rfl (Nat.le_of_ble_eq_true rfl) ?_
  refine AWp.seq ?_
  refine AWp.region ?_
  refine AList.c 4 rfl rfl rfl (OpJ.assign rfl rfl) ?_
  refine AList.nil ?_
  refine AWp.seq ?_
  refine AWp.region ?_
  refine AList.c 5 rfl rfl rfl (OpJ.move rfl rfl) ?_
  refine AList.c 6 rfl rfl rfl (OpJ.move rfl rfl) ?_
  refine AList.c 7 rfl rfl rfl (OpJ.shrN s n rfl rfl rfl (by first | decide | (show _ ≤ (9223372036854775807 : Int); omega) | (show _ ≤ (4294967295 : Int); omega) | (show _ ≤ (18446744073709551615 : Int); omega) | (show _ ≤ (255 : Int); omega) | (show _ ≤ (65535 : Int); omega))) ?_
  refine AList.c 8 rfl rfl rfl (OpJ.andN (s / 2 ^ n) 1 rfl rfl rfl (by first | (show _ ≤ (9223372036854775807 : Int); omega) | (show _ ≤ (4294967295 : Int); omega) | (show _ ≤ (18446744073709551615 : Int); omega) | (show _ ≤ (255 : Int); omega) | (show _ ≤ (65535 : Int); omega)) (by first | decide | (show _ ≤ (9223372036854775807 : Int); omega) | (show _ ≤ (4294967295 : Int); omega) | (show _ ≤ (18446744073709551615 : Int); omega) | (show _ ≤ (255 : Int); omega) | (show _ ≤ (65535 : Int); omega))) ?_
  refine AList.c 9 rfl rfl rfl (OpJ.eql rfl rfl rfl) ?_
  refine AList.c 4 rfl rfl rfl (OpJ.assign rfl rfl) ?_
  refine AList.nil ?_
  refine AWp.ret ?_
  refine Fin.oneE rfl rfl ?_
  rw [Nat.testBit_eq_decide_div_mod_eq, Nat.and_one_is_mod]
  exact congrArg PV.bool (decide_eq_decide.2 (by omega))
theorem osize_ok (s : Nat) (hs : s < 256) : Pure Tryd.prog 65 [.int .i64 (s : Int)] (.int .i64 ((szN s : Nat) : Int)) := by
  refine Pure.start (N := 6) Tryd.func65 rfl rfl (Nat.le_of_ble_eq_true rfl) ?_
  refine AWp.seq ?_
  refine AWp.region ?_
  refine AList.c 2 rfl rfl rfl (OpJ.assign rfl rfl) ?_
  refine AList.nil ?_
  refine AWp.seq ?_
  refine AWp.region ?_
  refine AList.c 3 rfl rfl rfl (OpJ.move rfl rfl) ?_
  refine AList.c 4 rfl rfl rfl (OpJ.convInt rfl rfl (by rw [un100]; rfl) un52 (u64ok ?_)) ?_
  · omega
  refine AList.c 5 rfl rfl rfl (OpJ.callP (oc_ok s hs) rfl rfl rfl rfl rf76) ?_
  refine AList.c 2 rfl rfl rfl (OpJ.assign rfl rfl) ?_
  refine AList.nil ?_
  refine AWp.ret ?_
  exact Fin.one rfl (rfl)
theorem worse_ok (s s2 : Nat) (m m2 : Int) (hs : s < 256) (hs2 : s2 < 256) : Pure Tryd.prog 35 [.agg [.int .i64 (s : Int), .int .i64 m], .agg [.int .i64 (s2 : Int), .int .i64 m2]] (.bool (woB s s2 m m2)) := by
  refine Pure.start (N := 22) Tryd.func35 rfl rfl (Nat.le_of_ble_eq_true rfl) ?_
  refine AWp.seq ?_
  refine AWp.region ?_
  refine AList.c 2 rfl rfl rfl (OpJ.boxImm rfl rfl rfl) ?_
  refine AList.c 3 rfl rfl rfl (OpJ.boxImm rfl rfl rfl) ?_
  refine AList.c 4 rfl rfl rfl (OpJ.assign rfl rfl) ?_
  refine AList.nil ?_
  refine AWp.seq ?_
  refine AWp.seq ?_
  refine AWp.region ?_
  refine AList.c 5 rfl rfl rfl (OpJ.fieldAddr rfl rfl fd103_1 rfl) ?_
  refine AList.c 6 rfl rfl rfl (OpJ.load (v := .p (.int .i64 m)) rfl rfl ty3 rfl) ?_
  refine AList.c 7 rfl rfl rfl (OpJ.fieldAddr rfl rfl fd103_1 rfl) ?_
  refine AList.c 8 rfl rfl rfl (OpJ.load (v := .p (.int .i64 m2)) rfl rfl ty3 rfl) ?_
  refine AList.c 9 rfl rfl rfl (OpJ.neq rfl rfl rfl) ?_
  refine AList.nil ?_
  refine AWp.cond _ rfl (fun hc0 => ?_) (fun hc0 => ?_)
  · skip
    have hne : m ≠ m2 := by simpa using hc0
    refine AWp.seq ?_
    refine AWp.region ?_
    refine AList.c 10 rfl rfl rfl (OpJ.fieldAddr rfl rfl fd103_1 rfl) ?_
    refine AList.c 11 rfl rfl rfl (OpJ.load (v := .p (.int .i64 m)) rfl rfl ty3 rfl) ?_
    refine AList.c 12 rfl rfl rfl (OpJ.fieldAddr rfl rfl fd103_1 rfl) ?_
    refine AList.c 13 rfl rfl rfl (OpJ.load (v := .p (.int .i64 m2)) rfl rfl ty3 rfl) ?_
    refine AList.c 14 rfl rfl rfl (OpJ.gtr rfl rfl rfl) ?_
    refine AList.c 4 rfl rfl rfl (OpJ.assign rfl rfl) ?_
    refine AList.nil ?_
    refine AWp.ret ?_
    refine Fin.oneE rfl rfl ?_
    unfold woB; rw [if_pos hne]
  · skip
    have hne : ¬ m ≠ m2 := by simpa using hc0
    refine AWp.skip ?_
    refine AWp.seq ?_
    refine AWp.regionDraw 8 mixed (by kernel_rfl) (by decide) ?_
    refine AQuiet.cons 15 rfl rfl rfl (OpJ.fieldAddr rfl rfl fd103_0 rfl) ?_
    refine AQuiet.cons 16 rfl rfl rfl (OpJ.load (v := .p (.int .i64 (s : Int))) rfl rfl ty100 rfl) ?_
    refine AQuiet.cons 17 rfl rfl rfl (OpJ.callP (osize_ok s hs) rfl rfl rfl rfl rf65) ?_
    refine AQuiet.cons 18 rfl rfl rfl (OpJ.fieldAddr rfl rfl fd103_0 rfl) ?_
    refine AQuiet.cons 19 rfl rfl rfl (OpJ.load (v := .p (.int .i64 (s2 : Int))) rfl rfl ty100 rfl) ?_
    refine AQuiet.cons 20 rfl rfl rfl (OpJ.callP (osize_ok s2 hs2) rfl rfl rfl rfl rf65) ?_
    refine AQuiet.cons 21 rfl rfl rfl (OpJ.lss rfl rfl rfl) ?_
    refine AQuiet.cons 4 rfl rfl rfl (OpJ.assign rfl rfl) ?_
    refine AQuiet.nil ?_
    refine AList.nil ?_
    refine AWp.ret ?_
    refine Fin.oneE rfl rfl ?_
    unfold woB; rw [if_neg hne]
def fateV (w : Bool) : PV := .iface (if w = true then 92 else 93) (.agg [])
theorem many_F (w : Bool) (x : Sup) : FIface Tryd.prog "pencilworks/order.many" (fateV w) [.agg x.cells] (.int .i64 (if w = true then x.lo else x.hi)) := by
  cases w with
  | true => exact ⟨92, _, 99, rfl, by kernel_rfl, rf99, wmany_ok x⟩
  | false => exact ⟨93, _, 101, rfl, by kernel_rfl, rf101, bmany_ok x⟩
theorem ready_F (w : Bool) (x : Sup) : FIface Tryd.prog "pencilworks/order.ready" (fateV w) [.agg x.cells] (.int .i64 (if w = true then x.rhi else x.rlo)) := by
  cases w with
  | true => exact ⟨92, _, 100, rfl, by kernel_rfl, rf100, wready_ok x⟩
  | false => exact ⟨93, _, 102, rfl, by kernel_rfl, rf102, bready_ok x⟩
theorem newMarket_ok (w : Bool) (x : Sup) (o : Ord) (sh os : Nat) (hsh : x.sh = (sh : Int)) (hos : o.os = (os : Int)) (hs : sh < 256) (hb : sh.testBit os = true) (hr : (if w = true then x.rhi else x.rlo) ≤ o.du) : Pure Tryd.prog 30 [saleV x o, fateV w] (.ip (mKC o.n (if w = true then x.lo else x.hi)) 0) := by
  have hle := Nat.div_le_self sh (2 ^ os)
  refine Pure.start (N := 93) Tryd.func30 rfl rfl (Nat.le_of_ble_eq_true rfl) ?_
  refine AWp.seq ?_
  refine AWp.region ?_
  refine AList.c 2 rfl rfl rfl (OpJ.boxImm rfl rfl rfl) ?_
  refine AList.c 4 rfl rfl rfl (OpJ.assign rfl rfl) ?_
  refine AList.nil ?_
  refine AWp.seq ?_
  refine AWp.region ?_
  refine AList.c 13 rfl rfl rfl (OpJ.buildR (v := .p (.agg [.nilSlice, .nilSlice, .nilSlice])) rfl bd142 rfl rfl rfl) ?_
  refine AList.c 14 rfl rfl rfl (OpJ.boxOwn rfl rfl rfl) ?_
  refine AList.c 5 rfl rfl rfl (OpJ.assign rfl rfl) ?_
  refine AList.nil ?_
  refine AWp.seq ?_
  refine AWp.seq ?_
  refine AWp.region ?_
  refine AList.c 15 rfl rfl rfl (OpJ.fieldAddr rfl rfl fd61_1 rfl) ?_
  refine AList.c 16 rfl rfl rfl (OpJ.load (v := .p (ordsV [o])) rfl rfl ty59 rfl) ?_
  refine AList.c 17 rfl rfl rfl (OpJ.lenSlice rfl rfl sl59 rfl) ?_
  refine AList.c 18 rfl rfl rfl (OpJ.move rfl rfl) ?_
  refine AList.nil ?_
  refine AWp.block ?_
  refine AWp.unroll 2 ?_
  refine ARounds.next ?_
  refine AWp.seq ?_
  refine AWp.region ?_
  refine AList.c 19 rfl rfl rfl (OpJ.lss rfl rfl rfl) ?_
  refine AList.nil ?_
  refine AWp.seq ?_
  refine AWp.condT rfl ?_
  refine AWp.skip ?_
  refine AWp.seq ?_
  refine AWp.block ?_
  refine AWp.seq ?_
  refine AWp.region ?_
  refine AList.c 20 rfl rfl rfl (OpJ.indexG (g := (fun _ => o)) (k := 0) one_get rfl rfl rfl sl59 el59 rfl (fun _ => rfl) (by decide) (show 0 < 1 by decide)) ?_
  refine AList.c 21 rfl rfl rfl (OpJ.load (v := .p (.agg o.cells)) rfl rfl ty58 rfl) ?_
  refine AList.c 7 rfl rfl rfl (OpJ.allocOwn rfl zr58 rfl) ?_
  refine AList.c0 rfl rfl (OpJ.store rfl rfl rfl rfl rfl ty58 rfl rfl) ?_
  refine AList.nil ?_
  refine AWp.regionDrawG 9 1 [2] [([], false), ([], false), ([], false), ([], false), ([0], false), ([], false), ([1], false), ([], false), ([2], true)] mixed (by kernel_rfl) (by decide) (by kernel_rfl) rfl rfl ?_
  refine AQG.cons 22 rfl rfl rfl (fun _ => (OpJ.move rfl rfl)) rfl ?_
  refine AQG.cons 23 rfl rfl rfl (fun _ => (OpJ.move rfl rfl)) rfl ?_
  refine AQG.cons 24 rfl rfl rfl (fun _ => (OpJ.nilCheck rfl rfl)) rfl ?_
  refine AQG.cons 25 rfl rfl rfl (fun _ => (OpJ.fieldAddr rfl rfl fd142_0 rfl)) rfl ?_
  refine AQG.cons 26 rfl rfl rfl (fun _ => (OpJ.load (v := .p .nilSlice) rfl rfl ty22 rfl)) rfl ?_
  refine AQG.cons 27 rfl rfl rfl (fun _ => (OpJ.fieldAddr rfl rfl fd58_1 rfl)) rfl ?_
  refine AQG.cons 28 rfl rfl rfl (fun _ => (OpJ.load (v := .p (.int .i64 o.n)) rfl rfl ty3 rfl)) rfl ?_
  refine AQG.cons 29 rfl rfl rfl (fun _ => (OpJ.buildImm rfl slz22 (by decide) rfl rfl rfl)) rfl ?_
  refine AQG.lay (blk := .dead) (v0 := .p (.is [.int .i64 o.n] 1)) 30 2 rfl rfl rfl rfl rfl rfl rfl rfl (fun _ => (OpJ.immD (xs := [.int .i64 o.n]) (OpJ.appendNil rfl rfl rfl slz22 sl22 rfl (by decide) rfl by3 (by decide) (by decide)))) rfl rfl rfl ?_
  refine AQG.nil ?_
  refine AList.c 31 rfl rfl rfl (OpJ.nilCheck rfl rfl) ?_
  refine AList.c 32 rfl rfl rfl (OpJ.fieldAddr rfl rfl fd142_0 rfl) ?_
  refine AList.c0 rfl rfl (OpJ.store rfl rfl rfl rfl rfl ty22 rfl rfl) ?_
  refine AList.nil ?_
  refine AWp.region ?_
  refine AList.c 33 rfl rfl rfl (OpJ.add rfl rfl rfl (i64ok ?_)) ?_
  · decide
  refine AList.c 18 rfl rfl rfl (OpJ.move rfl rfl) ?_
  refine AList.nil ?_
  refine ARounds.next ?_
  refine AWp.seq ?_
  refine AWp.region ?_
  refine AList.c 19 rfl rfl rfl (OpJ.lss rfl rfl rfl) ?_
  refine AList.nil ?_
  refine AWp.seq ?_
  refine AWp.condF rfl ?_
  refine AWp.exit ?_
  refine AWp.seq ?_
  refine AWp.seq ?_
  refine AWp.norm [0] [(1, _), (2, _), (5, _)] [.cells [.p (.is [.int .i64 o.n] 1), .p .nilSlice, .p .nilSlice] 142] rfl (by repeat (first | exact Sub.nil | refine Sub.cons rfl ?_)) rfl ?_
  refine AWp.region ?_
  refine AList.c 34 rfl rfl rfl (OpJ.fieldAddr rfl rfl fd61_0 rfl) ?_
  refine AList.c 35 rfl rfl rfl (OpJ.load (v := .p (supsV [x])) rfl rfl ty56 rfl) ?_
  refine AList.c 36 rfl rfl rfl (OpJ.lenSlice rfl rfl sl56 rfl) ?_
  refine AList.c 37 rfl rfl rfl (OpJ.move rfl rfl) ?_
  refine AList.nil ?_
  refine AWp.block ?_
  refine AWp.unroll 2 ?_
  refine ARounds.next ?_
  refine AWp.seq ?_
  refine AWp.region ?_
  refine AList.c 38 rfl rfl rfl (OpJ.lss rfl rfl rfl) ?_
  refine AList.nil ?_
  refine AWp.seq ?_
  refine AWp.condT rfl ?_
  refine AWp.skip ?_
  refine AWp.seq ?_
  refine AWp.block ?_
  refine AWp.seq ?_
  refine AWp.region ?_
  refine AList.c 39 rfl rfl rfl (OpJ.indexG (g := (fun _ => x)) (k := 0) one_get rfl rfl rfl sl56 el56 rfl (fun _ => rfl) (by decide) (show 0 < 1 by decide)) ?_
  refine AList.c 40 rfl rfl rfl (OpJ.load (v := .p (.agg x.cells)) rfl rfl ty55 rfl) ?_
  refine AList.c 9 rfl rfl rfl (OpJ.allocOwn rfl zr55 rfl) ?_
  refine AList.c0 rfl rfl (OpJ.store rfl rfl rfl rfl rfl ty55 rfl rfl) ?_
  refine AList.nil ?_
  refine AWp.seq ?_
  refine AWp.region ?_
  refine AList.c 10 rfl rfl rfl (OpJ.assign rfl rfl) ?_
  refine AList.nil ?_
  refine AWp.seq ?_
  refine AWp.seq ?_
  refine AWp.region ?_
  refine AList.c 41 rfl rfl rfl (OpJ.fieldAddr rfl rfl fd61_1 rfl) ?_
  refine AList.c 42 rfl rfl rfl (OpJ.load (v := .p (ordsV [o])) rfl rfl ty59 rfl) ?_
  refine AList.c 43 rfl rfl rfl (OpJ.lenSlice rfl rfl sl59 rfl) ?_
  refine AList.c 44 rfl rfl rfl (OpJ.move rfl rfl) ?_
  refine AList.nil ?_
  refine AWp.block ?_
  refine AWp.unroll 2 ?_
  refine ARounds.next ?_
  refine AWp.seq ?_
  refine AWp.region ?_
  refine AList.c 45 rfl rfl rfl (OpJ.lss rfl rfl rfl) ?_
  refine AList.nil ?_
  refine AWp.seq ?_
  refine AWp.condT rfl ?_
  refine AWp.skip ?_
  refine AWp.seq ?_
  refine AWp.block ?_
  refine AWp.seq ?_
  refine AWp.region ?_
  refine AList.c 46 rfl rfl rfl (OpJ.move rfl rfl) ?_
  refine AList.c 47 rfl rfl rfl (OpJ.indexG (g := (fun _ => o)) (k := 0) one_get rfl rfl rfl sl59 el59 rfl (fun _ => rfl) (by decide) (show 0 < 1 by decide)) ?_
  refine AList.c 48 rfl rfl rfl (OpJ.load (v := .p (.agg o.cells)) rfl rfl ty58 rfl) ?_
  refine AList.c 12 rfl rfl rfl (OpJ.allocOwn rfl zr58 rfl) ?_
  refine AList.c 11 rfl rfl rfl (OpJ.assign rfl rfl) ?_
  refine AList.c0 rfl rfl (OpJ.store rfl rfl rfl rfl rfl ty58 rfl rfl) ?_
  refine AList.nil ?_
  refine AWp.seq ?_
  refine AWp.regionDraw 15 mixed (by kernel_rfl) (by decide) ?_
  refine AQuiet.cons 49 rfl rfl rfl (OpJ.fieldAddr rfl rfl fd55_0 rfl) ?_
  refine AQuiet.cons 50 rfl rfl rfl (OpJ.load (v := .p (.int .i64 x.sh)) rfl rfl ty3 rfl) ?_
  refine AQuiet.cons 51 rfl rfl rfl (OpJ.fieldAddr rfl rfl fd58_0 rfl) ?_
  refine AQuiet.cons 52 rfl rfl rfl (OpJ.load (v := .p (.int .i64 o.os)) rfl rfl ty3 rfl) ?_
  rw [hsh, hos]
  refine AQuiet.cons 53 rfl rfl rfl (OpJ.shrN sh os rfl rfl rfl (by first | decide | (show _ ≤ (9223372036854775807 : Int); omega) | (show _ ≤ (4294967295 : Int); omega) | (show _ ≤ (18446744073709551615 : Int); omega) | (show _ ≤ (255 : Int); omega) | (show _ ≤ (65535 : Int); omega))) ?_
  refine AQuiet.cons 54 rfl rfl rfl (OpJ.andN (sh / 2 ^ os) 1 rfl rfl rfl (by first | (show _ ≤ (9223372036854775807 : Int); omega) | (show _ ≤ (4294967295 : Int); omega) | (show _ ≤ (18446744073709551615 : Int); omega) | (show _ ≤ (255 : Int); omega) | (show _ ≤ (65535 : Int); omega)) (by first | decide | (show _ ≤ (9223372036854775807 : Int); omega) | (show _ ≤ (4294967295 : Int); omega) | (show _ ≤ (18446744073709551615 : Int); omega) | (show _ ≤ (255 : Int); omega) | (show _ ≤ (65535 : Int); omega))) ?_
  refine AQuiet.cons 55 rfl rfl rfl (OpJ.eql rfl rfl rfl) ?_
  refine AQuiet.cons 56 rfl rfl rfl (OpJ.move rfl rfl) ?_
  refine AQuiet.guard 57 56 rfl rfl rfl rfl rfl rfl rfl [(1, _)] (fun h => And.intro (.inl rfl) (trivial)) (fun h => (OpJ.move rfl rfl)) ?_
  refine AQuiet.guard 58 56 rfl rfl rfl rfl rfl rfl rfl [(9, _)] (fun h => And.intro (.inl rfl) (trivial)) (fun h => (OpJ.load (v := .p (.agg x.cells)) rfl rfl ty55 rfl)) ?_
  refine AQuiet.guard 59 56 rfl rfl rfl rfl rfl rfl rfl [(57, _), (58, _)] (fun h => And.intro (.inr ⟨_, rfl, h⟩) (And.intro (.inr ⟨_, rfl, h⟩) (trivial))) (fun h => (OpJ.invoke (ready_F w x) rfl rfl rfl)) ?_
  refine AQuiet.guard 60 56 rfl rfl rfl rfl rfl rfl rfl [(12, _)] (fun h => And.intro (.inl rfl) (trivial)) (fun h => (OpJ.fieldAddr rfl rfl fd58_2 rfl)) ?_
  refine AQuiet.guard 61 56 rfl rfl rfl rfl rfl rfl rfl [(60, _)] (fun h => And.intro (.inr ⟨_, rfl, h⟩) (trivial)) (fun h => (OpJ.load (v := .p (.int .i64 o.du)) rfl rfl ty3 rfl)) ?_
  refine AQuiet.guard 62 56 rfl rfl rfl rfl rfl rfl rfl [(59, _), (61, _)] (fun h => And.intro (.inr ⟨_, rfl, h⟩) (And.intro (.inr ⟨_, rfl, h⟩) (trivial))) (fun h => (OpJ.leq rfl rfl rfl)) ?_
  refine AQuiet.cons 63 rfl rfl rfl (OpJ.and_ rfl rfl rfl ?_) ?_
  · first | (intro h; rw [h]; rfl) | (intro h; simp_all)
  refine AQuiet.nil ?_
  refine AList.nil ?_
  refine AWp.cond _ rfl (fun hc3 => ?_) (fun hc3 => ?_)
  · skip
    refine AWp.region ?_
    refine AList.c 64 rfl rfl rfl (OpJ.move rfl rfl) ?_
    refine AList.c 65 rfl rfl rfl (OpJ.move rfl rfl) ?_
    refine AList.c 66 rfl rfl rfl (OpJ.shlN 1 0 rfl rfl rfl (by decide) (by decide)) ?_
    refine AList.c 67 rfl rfl rfl (OpJ.orN 0 (1 * 2 ^ 0) rfl rfl rfl (by decide) (by decide) (by decide)) ?_
    refine AList.c 10 rfl rfl rfl (OpJ.assign rfl rfl) ?_
    refine AList.nil ?_
    refine AWp.region ?_
    refine AList.c 68 rfl rfl rfl (OpJ.add rfl rfl rfl (i64ok ?_)) ?_
    · decide
    refine AList.c 44 rfl rfl rfl (OpJ.move rfl rfl) ?_
    refine AList.nil ?_
    refine ARounds.next ?_
    refine AWp.seq ?_
    refine AWp.region ?_
    refine AList.c 45 rfl rfl rfl (OpJ.lss rfl rfl rfl) ?_
    refine AList.nil ?_
    refine AWp.seq ?_
    refine AWp.condF rfl ?_
    refine AWp.exit ?_
    refine AWp.norm [0, 1] [(1, _), (2, _), (5, _), (9, _), (10, .p (.int .i64 1)), (35, _), (36, _), (37, _)] [.cells [.p (.is [.int .i64 o.n] 1), .p .nilSlice, .p .nilSlice] 142, .cells (x.cells.map .p) 55] rfl (by repeat (first | exact Sub.nil | refine Sub.cons rfl ?_)) rfl ?_
    refine AWp.regionDrawG 21 2 [0, 2, 3] [([], false), ([], false), ([], false), ([], false), ([], false), ([0], false), ([], false), ([1], false), ([], false), ([], false), ([2], true), ([], false), ([], false), ([], false), ([0], false), ([], false), ([], false), ([3], true), ([], false), ([], false), ([0], true)] mixed (by kernel_rfl) (by decide) (by kernel_rfl) rfl rfl ?_
    refine AQG.cons 69 rfl rfl rfl (fun _ => (OpJ.move rfl rfl)) rfl ?_
    refine AQG.cons 70 rfl rfl rfl (fun _ => (OpJ.move rfl rfl)) rfl ?_
    refine AQG.cons 71 rfl rfl rfl (fun _ => (OpJ.move rfl rfl)) rfl ?_
    refine AQG.cons 72 rfl rfl rfl (fun _ => (OpJ.nilCheck rfl rfl)) rfl ?_
    refine AQG.cons 73 rfl rfl rfl (fun _ => (OpJ.fieldAddr rfl rfl fd142_1 rfl)) rfl ?_
    refine AQG.cons 74 rfl rfl rfl (fun _ => (OpJ.load (v := .p .nilSlice) rfl rfl ty22 rfl)) rfl ?_
    refine AQG.cons 75 rfl rfl rfl (fun _ => (OpJ.move rfl rfl)) rfl ?_
    refine AQG.cons 76 rfl rfl rfl (fun _ => (OpJ.load (v := .p (.agg x.cells)) rfl rfl ty55 rfl)) rfl ?_
    refine AQG.cons 77 rfl rfl rfl (fun _ => (OpJ.invoke (many_F w x) rfl rfl rfl)) rfl ?_
    refine AQG.cons 78 rfl rfl rfl (fun _ => (OpJ.buildImm rfl slz22 (by decide) rfl rfl rfl)) rfl ?_
    refine AQG.lay (blk := .dead) (v0 := .p (.is [.int .i64 (if w = true then x.lo else x.hi)] 1)) 79 2 rfl rfl rfl rfl rfl rfl rfl rfl (fun _ => (OpJ.immD (xs := [.int .i64 (if w = true then x.lo else x.hi)]) (OpJ.appendNil rfl rfl rfl slz22 sl22 rfl (by decide) rfl by3 (by decide) (by decide)))) rfl rfl rfl ?_
    refine AQG.cons 80 rfl rfl rfl (fun _ => (OpJ.move rfl rfl)) rfl ?_
    refine AQG.cons 81 rfl rfl rfl (fun _ => (OpJ.nilCheck rfl rfl)) rfl ?_
    refine AQG.cons 82 rfl rfl rfl (fun _ => (OpJ.fieldAddr rfl rfl fd142_2 rfl)) rfl ?_
    refine AQG.cons 83 rfl rfl rfl (fun _ => (OpJ.load (v := .p .nilSlice) rfl rfl ty140 rfl)) rfl ?_
    refine AQG.cons 84 rfl rfl rfl (fun _ => (OpJ.move rfl rfl)) rfl ?_
    refine AQG.cons 85 rfl rfl rfl (fun _ => (OpJ.buildImm rfl slz140 (by decide) rfl rfl rfl)) rfl ?_
    refine AQG.lay (blk := .dead) (v0 := .p (.is [.int .i64 1] 1)) 86 3 rfl rfl rfl rfl rfl rfl rfl rfl (fun _ => (OpJ.immD (xs := [.int .i64 1]) (OpJ.appendNil rfl rfl rfl slz140 sl140 rfl (by decide) rfl by100 (by decide) (by decide)))) rfl rfl rfl ?_
    refine AQG.cons 87 rfl rfl rfl (fun _ => (OpJ.nilCheck rfl rfl)) rfl ?_
    refine AQG.cons 88 rfl rfl rfl (fun _ => (OpJ.fieldAddr rfl rfl fd142_1 rfl)) rfl ?_
    refine AQG.put (blk := .cells [.p (.is [.int .i64 o.n] 1), .p (.is [.int .i64 (if w = true then x.lo else x.hi)] 1), .p .nilSlice] 142) 0 rfl rfl rfl rfl (fun _ => (OpJ.store rfl rfl rfl rfl rfl ty22 rfl rfl)) rfl rfl ?_
    refine AQG.nil ?_
    refine AList.c 89 rfl rfl rfl (OpJ.nilCheck rfl rfl) ?_
    refine AList.c 90 rfl rfl rfl (OpJ.fieldAddr rfl rfl fd142_2 rfl) ?_
    refine AList.c0 rfl rfl (OpJ.store rfl rfl rfl rfl rfl ty140 rfl rfl) ?_
    refine AList.nil ?_
    refine AWp.region ?_
    refine AList.c 91 rfl rfl rfl (OpJ.add rfl rfl rfl (i64ok ?_)) ?_
    · decide
    refine AList.c 37 rfl rfl rfl (OpJ.move rfl rfl) ?_
    refine AList.nil ?_
    refine ARounds.next ?_
    refine AWp.seq ?_
    refine AWp.region ?_
    refine AList.c 38 rfl rfl rfl (OpJ.lss rfl rfl rfl) ?_
    refine AList.nil ?_
    refine AWp.seq ?_
    refine AWp.condF rfl ?_
    refine AWp.exit ?_
    refine AWp.seq ?_
    refine AWp.region ?_
    refine AList.c 92 rfl rfl rfl (OpJ.move rfl rfl) ?_
    refine AList.c 4 rfl rfl rfl (OpJ.assign rfl rfl) ?_
    refine AList.nil ?_
    refine AWp.norm [0] [(4, _)] [.cells [.p (.is [.int .i64 o.n] 1), .p (.is [.int .i64 (if w = true then x.lo else x.hi)] 1), .p (.is [.int .i64 1] 1)] 142] rfl (by repeat (first | exact Sub.nil | refine Sub.cons rfl ?_)) rfl ?_
    refine AWp.freeze 0 rfl rfl ?_
    refine AWp.ret ?_
    exact Fin.oneE rfl rfl rfl
  · skip
    exfalso
    have h : (decide (((sh / 2 ^ os &&& 1 : Nat) : Int) = 1) && decide ((if w = true then x.rhi else x.rlo) ≤ o.du)) = false := hc3
    rw [bitE, hb, decide_eq_true hr] at h
    cases h
theorem mall_ok (a b : Int) : Pure Tryd.prog 32 [(.ip (mKC a b) 0)] (.int .i64 ((1 : Nat) : Int)) := by
  refine Pure.start (N := 10) Tryd.func32 rfl rfl (Nat.le_of_ble_eq_true rfl) ?_
  refine AWp.seq ?_
  refine AWp.region ?_
  refine AList.c 2 rfl rfl rfl (OpJ.assign rfl rfl) ?_
  refine AList.nil ?_
  refine AWp.seq ?_
  refine AWp.region ?_
  refine AList.c 3 rfl rfl rfl (OpJ.move rfl rfl) ?_
  refine AList.c 4 rfl rfl rfl (OpJ.nilCheckP rfl rfl) ?_
  refine AList.c 5 rfl rfl rfl (OpJ.fieldAddr rfl rfl fd142_0 rfl) ?_
  refine AList.c 6 rfl rfl rfl (OpJ.load (v := .p (intsV [a])) rfl rfl ty22 rfl) ?_
  refine AList.c 7 rfl rfl rfl (OpJ.lenSlice rfl rfl sl22 rfl) ?_
  refine AList.c 8 rfl rfl rfl (OpJ.shlN 1 1 rfl rfl rfl (by decide) (by decide)) ?_
  refine AList.c 9 rfl rfl rfl (OpJ.sub_ (m := ((1 : Nat) : Int)) rfl rfl rfl ((i64ok ?_).trans ?_)) ?_
  · decide
  · rfl
  refine AList.c 2 rfl rfl rfl (OpJ.assign rfl rfl) ?_
  refine AList.nil ?_
  refine AWp.ret ?_
  exact Fin.one rfl (rfl)
theorem parts_ok (s : Nat) : Pure Tryd.prog 33 [.int .i64 (s : Int)] (.func (.func 60) [] [.ip [.int .i64 (s : Int)] 0]) := by
  refine Pure.start (N := 4) Tryd.func33 rfl rfl (Nat.le_of_ble_eq_true rfl) ?_
  refine AWp.seq ?_
  refine AWp.region ?_
  refine AList.c 1 rfl rfl rfl (OpJ.boxImm rfl rfl rfl) ?_
  refine AList.c 2 rfl rfl rfl (OpJ.assign rfl rfl) ?_
  refine AList.nil ?_
  refine AWp.seq ?_
  refine AWp.region ?_
  refine AList.c 3 rfl rfl rfl (OpJ.makeFunc rfl rfl rfl) ?_
  refine AList.c 2 rfl rfl rfl (OpJ.assign rfl rfl) ?_
  refine AList.nil ?_
  refine AWp.ret ?_
  exact Fin.one rfl (rfl)
theorem parts_seq (s : Nat) (hs : s < 256) : ASeq Tryd.prog 60 (fun y => [y, .p (.ip [.int .i64 (s : Int)] 0)]) (prtX s) := by
  intro l κ nn inv fin hκ hnn hfin hb h0 hi0
  refine ACallsK.of_body (N := 20) Tryd.func60 rfl rfl (Nat.le_of_ble_eq_true rfl) ?_
  refine AWp.seq ?_
  refine AWp.region ?_
  refine AList.c 4 rfl rfl rfl (OpJ.load (v := .p (.int .i64 (s : Int))) rfl rfl ty100 rfl) ?_
  refine AList.c 5 rfl rfl rfl (OpJ.add (m := ((s + 1 : Nat) : Int)) rfl rfl rfl ((i64ok ?_).trans ?_)) ?_
  · omega
  · rfl
  refine AList.c 6 rfl rfl rfl (OpJ.move rfl rfl) ?_
  refine AList.nil ?_
  refine AWp.block ?_
  refine AWp.loopH [3, 6, 7, 8, 9, 10, 11, 12, 13, 14, 15, 16, 17, 18, 19] (fun g => [(6, .p (.int .i64 ((g.1 : Nat) : Int)))]) (fun g => g.2) (fun g => g.1 ≤ s + 1 ∧ inv (prtF s g.1).length g.2) (fun g => s + 1 - g.1) (0, h0) (show (0 : Nat) ≤ s + 1 ∧ inv (prtF s 0).length h0 from ⟨Nat.zero_le _, hi0⟩) (To.sub (Sub.chd (Sub.cons rfl (Sub.nil)))) (fun g hg => ?_)
  obtain ⟨p, hcur⟩ := g
  obtain ⟨hle, hinv⟩ := hg
  dsimp only at hle hinv ⊢
  refine AWp.seq ?_
  refine AWp.region ?_
  refine AList.c 7 rfl rfl rfl (OpJ.lss rfl rfl rfl) ?_
  refine AList.nil ?_
  refine AWp.seq ?_
  refine AWp.cond _ rfl (fun hc0 => ?_) (fun hc0 => ?_)
  · skip
    have hp0 : p < s + 1 := by have h := of_decide_eq_true hc0; omega
    refine AWp.skip ?_
    refine AWp.seq ?_
    refine AWp.block ?_
    refine AWp.seq ?_
    refine AWp.region ?_
    refine AList.c 8 rfl rfl rfl (OpJ.move rfl rfl) ?_
    refine AList.c 3 rfl rfl rfl (OpJ.assign rfl rfl) ?_
    refine AList.nil ?_
    refine AWp.seq ?_
    refine AWp.region ?_
    refine AList.c 9 rfl rfl rfl (OpJ.move rfl rfl) ?_
    refine AList.c 10 rfl rfl rfl (OpJ.load (v := .p (.int .i64 (s : Int))) rfl rfl ty100 rfl) ?_
    refine AList.c 11 rfl rfl rfl (OpJ.andNotN p s rfl rfl rfl (by first | (show _ ≤ (9223372036854775807 : Int); omega) | (show _ ≤ (4294967295 : Int); omega) | (show _ ≤ (18446744073709551615 : Int); omega) | (show _ ≤ (255 : Int); omega) | (show _ ≤ (65535 : Int); omega))) ?_
    refine AList.c 12 rfl rfl rfl (OpJ.eql rfl rfl rfl) ?_
    refine AList.c 13 rfl rfl rfl (OpJ.move rfl rfl) ?_
    refine AList.g 14 13 rfl rfl rfl rfl rfl rfl rfl [(0, _)] (fun h => And.intro (.inl rfl) (trivial)) (fun h => (OpJ.move rfl rfl)) ?_
    refine AList.g 15 13 rfl rfl rfl rfl rfl rfl rfl [(3, _)] (fun h => And.intro (.inl rfl) (trivial)) (fun h => (OpJ.move rfl rfl)) ?_
    refine AList.yieldG 16 13 rfl rfl rfl rfl rfl rfl rfl rfl [(14, _), (15, _)] (fun h => And.intro (.inr ⟨_, rfl, h⟩) (And.intro (.inr ⟨_, rfl, h⟩) trivial)) rfl rfl (fun h => by exact hb _ _ _ hinv (prtX_at (by omega) (show prtB s p = true from eq_of_beq h))) ?_
    intro b2 h2 hq1 hq2
    refine AList.g 17 13 rfl rfl rfl rfl rfl rfl rfl [(16, _)] (fun h => And.intro (.inr ⟨_, rfl, h⟩) (trivial)) (fun h => (OpJ.not_ rfl rfl)) ?_
    refine AList.c 18 rfl rfl rfl (OpJ.and_ rfl rfl rfl ?_) ?_
    · first | (intro h; rw [h]; rfl) | (intro h; simp_all)
    refine AList.nil ?_
    refine AWp.cond _ rfl (fun hc1 => ?_) (fun hc1 => ?_)
    · skip
      have hend : inv (prtX s).length h2 ∨ fin h2 := by
        cases e : prtB s p with
        | true =>
          have h4 := hq1 (by show (prtB s p == true) = true; rw [e]; rfl)
          have hb2 : b2 = false := by have h5 : (prtB s p && !b2) = true := hc1; rw [e] at h5; simpa using h5
          rw [if_neg (by rw [hb2]; decide)] at h4
          exact .inr h4
        | false =>
          exfalso
          have h5 : (prtB s p && !b2) = true := hc1
          rw [e] at h5
          cases h5
      refine AWp.ret ?_
      exact ⟨.inr rfl, _, resV.none_ rfl, hend⟩
    · skip
      have hN : inv (prtF s (p + 1)).length h2 := by
        cases e : prtB s p with
        | true =>
          have h4 := hq1 (by show (prtB s p == true) = true; rw [e]; rfl)
          have hb2 : b2 = true := by have h5 : (prtB s p && !b2) = false := hc1; rw [e] at h5; simpa using h5
          rw [if_pos hb2] at h4
          rw [prtF_T e, List.length_append]
          exact h4
        | false =>
          rw [hq2 (by show (prtB s p == true) = false; rw [e]; rfl), prtF_F e]
          exact hinv
      refine AWp.skip ?_
      refine AWp.region ?_
      refine AList.c 19 rfl rfl rfl (OpJ.add rfl rfl rfl (i64ok ?_)) ?_
      · omega
      refine AList.c 6 rfl rfl rfl (OpJ.move rfl rfl) ?_
      refine AList.nil ?_
      refine ⟨(p + 1, h2), ?_, ?_, ?_⟩
      · exact ⟨by dsimp only; omega, hN⟩
      · show s + 1 - (p + 1) < s + 1 - p
        omega
      exact To.sub (Sub.cons rfl (by repeat (first | exact Sub.nil | refine Sub.cons rfl ?_)))
  · skip
    obtain rfl : p = s + 1 := by have h := of_decide_eq_false hc0; omega
    refine AWp.exit ?_
    exact ⟨.inl rfl, _, resV.none_ rfl, .inl (by rw [prtX_len]; exact hinv)⟩
theorem there_ok (b : Bool) : Pure Tryd.prog 64 [.int .i64 0, .ip [mapP (PV.int .i64) PV.bool [((0 : Int), b)]] 0] (.bool b) := by
  refine Pure.start (N := 7) Tryd.func64 rfl rfl (Nat.le_of_ble_eq_true rfl) ?_
  refine AWp.seq ?_
  refine AWp.region ?_
  refine AList.c 3 rfl rfl rfl (OpJ.assign rfl rfl) ?_
  refine AList.nil ?_
  refine AWp.seq ?_
  refine AWp.region ?_
  refine AList.c 4 rfl rfl rfl (OpJ.load (v := .p (mapP (PV.int .i64) PV.bool [((0 : Int), b)])) rfl rfl ty144 rfl) ?_
  refine AList.c 5 rfl rfl rfl (OpJ.move rfl rfl) ?_
  refine AList.c 6 rfl rfl rfl (OpJ.lookupImD (KeyOk.int .i64 .i64) (gp := PV.bool) false rfl rfl rfl mp144 rfl) ?_
  refine AList.c 3 rfl rfl rfl (OpJ.assign rfl rfl) ?_
  refine AList.nil ?_
  refine AWp.ret ?_
  exact Fin.oneE rfl rfl rfl
theorem osum_ok (a : Int) (f g : PV) (p : Bool) (ha : -1073741824 ≤ a ∧ a ≤ 1073741824) (hf : FPure Tryd.prog f [.int .i64 0] (.bool p)) (hg : FPure Tryd.prog g [.int .i64 a] (.int .i64 a)) : Pure Tryd.prog 61 [intsV [a], f, g] (.int .i64 (if p = true then a else 0)) := by
  refine Pure.start (N := 26) Tryd.func61 rfl rfl (Nat.le_of_ble_eq_true rfl) ?_
  refine AWp.seq ?_
  refine AWp.region ?_
  refine AList.c 6 rfl rfl rfl (OpJ.assign rfl rfl) ?_
  refine AList.nil ?_
  refine AWp.seq ?_
  refine AWp.seq ?_
  refine AWp.region ?_
  refine AList.c 9 rfl rfl rfl (OpJ.move rfl rfl) ?_
  refine AList.c 10 rfl rfl rfl (OpJ.lenSlice rfl rfl sl22 rfl) ?_
  refine AList.c 11 rfl rfl rfl (OpJ.move rfl rfl) ?_
  refine AList.nil ?_
  refine AWp.block ?_
  refine AWp.unroll 2 ?_
  refine ARounds.next ?_
  refine AWp.seq ?_
  refine AWp.region ?_
  refine AList.c 12 rfl rfl rfl (OpJ.lss rfl rfl rfl) ?_
  refine AList.nil ?_
  refine AWp.seq ?_
  refine AWp.condT rfl ?_
  refine AWp.skip ?_
  refine AWp.seq ?_
  refine AWp.block ?_
  refine AWp.seq ?_
  refine AWp.region ?_
  refine AList.c 13 rfl rfl rfl (OpJ.move rfl rfl) ?_
  refine AList.c 14 rfl rfl rfl (OpJ.indexG (g := (fun _ => a)) (k := 0) one_get rfl rfl rfl sl22 el22 rfl (fun _ => rfl) (by decide) (show 0 < 1 by decide)) ?_
  refine AList.c 15 rfl rfl rfl (OpJ.load (v := .p (.int .i64 a)) rfl rfl ty3 rfl) ?_
  refine AList.c 7 rfl rfl rfl (OpJ.assign rfl rfl) ?_
  refine AList.c 8 rfl rfl rfl (OpJ.assign rfl rfl) ?_
  refine AList.nil ?_
  refine AWp.seq ?_
  refine AWp.region ?_
  refine AList.c 16 rfl rfl rfl (OpJ.move rfl rfl) ?_
  refine AList.c 17 rfl rfl rfl (OpJ.move rfl rfl) ?_
  refine AList.c 18 rfl rfl rfl (OpJ.callF (hf) rfl rfl rfl) ?_
  refine AList.nil ?_
  refine AWp.cond _ rfl (fun hc1 => ?_) (fun hc1 => ?_)
  · skip
    have hp : p = true := hc1
    refine AWp.region ?_
    refine AList.c 19 rfl rfl rfl (OpJ.move rfl rfl) ?_
    refine AList.c 20 rfl rfl rfl (OpJ.move rfl rfl) ?_
    refine AList.c 21 rfl rfl rfl (OpJ.move rfl rfl) ?_
    refine AList.c 22 rfl rfl rfl (OpJ.callF (hg) rfl rfl rfl) ?_
    refine AList.c 23 rfl rfl rfl (OpJ.add (m := a) rfl rfl rfl ((i64ok ?_).trans ?_)) ?_
    · omega
    · omega
    refine AList.c 6 rfl rfl rfl (OpJ.assign rfl rfl) ?_
    refine AList.nil ?_
    refine AWp.region ?_
    refine AList.c 24 rfl rfl rfl (OpJ.add rfl rfl rfl (i64ok ?_)) ?_
    · decide
    refine AList.c 11 rfl rfl rfl (OpJ.move rfl rfl) ?_
    refine AList.nil ?_
    refine ARounds.next ?_
    refine AWp.seq ?_
    refine AWp.region ?_
    refine AList.c 12 rfl rfl rfl (OpJ.lss rfl rfl rfl) ?_
    refine AList.nil ?_
    refine AWp.seq ?_
    refine AWp.condF rfl ?_
    refine AWp.exit ?_
    refine AWp.seq ?_
    refine AWp.region ?_
    refine AList.c 25 rfl rfl rfl (OpJ.move rfl rfl) ?_
    refine AList.c 6 rfl rfl rfl (OpJ.assign rfl rfl) ?_
    refine AList.nil ?_
    refine AWp.ret ?_
    refine Fin.oneE rfl rfl ?_
    rw [hp]; rfl
  · skip
    have hp : p = false := hc1
    refine AWp.skip ?_
    refine AWp.region ?_
    refine AList.c 24 rfl rfl rfl (OpJ.add rfl rfl rfl (i64ok ?_)) ?_
    · decide
    refine AList.c 11 rfl rfl rfl (OpJ.move rfl rfl) ?_
    refine AList.nil ?_
    refine ARounds.next ?_
    refine AWp.seq ?_
    refine AWp.region ?_
    refine AList.c 12 rfl rfl rfl (OpJ.lss rfl rfl rfl) ?_
    refine AList.nil ?_
    refine AWp.seq ?_
    refine AWp.condF rfl ?_
    refine AWp.exit ?_
    refine AWp.seq ?_
    refine AWp.region ?_
    refine AList.c 25 rfl rfl rfl (OpJ.move rfl rfl) ?_
    refine AList.c 6 rfl rfl rfl (OpJ.assign rfl rfl) ?_
    refine AList.nil ?_
    refine AWp.ret ?_
    refine Fin.oneE rfl rfl ?_
    rw [hp]; rfl
theorem lacks_ok (a b : Int) (s : Nat) (hs : s < 256) (ha : -1073741824 ≤ a ∧ a ≤ 1073741824) (hb : -1073741824 ≤ b ∧ b ≤ 1073741824) : Pure Tryd.prog 34 [(.ip (mKC a b) 0), .int .i64 (s : Int)] (.int .i64 (lkN a b s)) := by
  refine Pure.start (N := 40) Tryd.func34 rfl rfl (Nat.le_of_ble_eq_true rfl) ?_
  refine AWp.seq ?_
  refine AWp.region ?_
  refine AList.c 4 rfl rfl rfl (OpJ.assign rfl rfl) ?_
  refine AList.nil ?_
  refine AWp.seq ?_
  refine AWp.region ?_
  refine AList.c 8 rfl rfl rfl (OpJ.makeMap (K := Int) (α := Bool) (enc := PV.int .i64) (g := fun b => .p (.bool b)) rfl) ?_
  refine AList.c 5 rfl rfl rfl (OpJ.allocOwn rfl zr144 rfl) ?_
  refine AList.c0 rfl rfl (OpJ.store rfl rfl rfl rfl rfl ty144 rfl rfl) ?_
  refine AList.nil ?_
  refine AWp.seq ?_
  refine AWp.seq ?_
  refine AWp.region ?_
  refine AList.c 9 rfl rfl rfl (OpJ.move rfl rfl) ?_
  refine AList.c 10 rfl rfl rfl (OpJ.nilCheckP rfl rfl) ?_
  refine AList.c 11 rfl rfl rfl (OpJ.fieldAddr rfl rfl fd142_2 rfl) ?_
  refine AList.c 12 rfl rfl rfl (OpJ.load (v := .p (intsV [1])) rfl rfl ty140 rfl) ?_
  refine AList.c 13 rfl rfl rfl (OpJ.lenSlice rfl rfl sl140 rfl) ?_
  refine AList.c 14 rfl rfl rfl (OpJ.move rfl rfl) ?_
  refine AList.nil ?_
  refine AWp.block ?_
  refine AWp.unroll 2 ?_
  refine ARounds.next ?_
  refine AWp.seq ?_
  refine AWp.region ?_
  refine AList.c 15 rfl rfl rfl (OpJ.lss rfl rfl rfl) ?_
  refine AList.nil ?_
  refine AWp.seq ?_
  refine AWp.condT rfl ?_
  refine AWp.skip ?_
  refine AWp.seq ?_
  refine AWp.block ?_
  refine AWp.seq ?_
  refine AWp.region ?_
  refine AList.c 16 rfl rfl rfl (OpJ.move rfl rfl) ?_
  refine AList.c 17 rfl rfl rfl (OpJ.indexG (g := (fun _ => 1)) (k := 0) one_get rfl rfl rfl sl140 el140 rfl (fun _ => rfl) (by decide) (show 0 < 1 by decide)) ?_
  refine AList.c 18 rfl rfl rfl (OpJ.load (v := .p (.int .i64 1)) rfl rfl ty100 rfl) ?_
  refine AList.c 6 rfl rfl rfl (OpJ.assign rfl rfl) ?_
  refine AList.c 7 rfl rfl rfl (OpJ.assign rfl rfl) ?_
  refine AList.nil ?_
  refine AWp.region ?_
  refine AList.c 19 rfl rfl rfl (OpJ.load (v := .map 0) rfl rfl ty144 rfl) ?_
  refine AList.c 20 rfl rfl rfl (OpJ.move rfl rfl) ?_
  refine AList.c 21 rfl rfl rfl (OpJ.move rfl rfl) ?_
  refine AList.c 22 rfl rfl rfl (OpJ.move rfl rfl) ?_
  refine AList.c 23 rfl rfl rfl (OpJ.andN 1 s rfl rfl rfl (by first | (show _ ≤ (9223372036854775807 : Int); omega) | (show _ ≤ (4294967295 : Int); omega) | (show _ ≤ (18446744073709551615 : Int); omega) | (show _ ≤ (255 : Int); omega) | (show _ ≤ (65535 : Int); omega)) (by first | decide | (show _ ≤ (9223372036854775807 : Int); omega) | (show _ ≤ (4294967295 : Int); omega) | (show _ ≤ (18446744073709551615 : Int); omega) | (show _ ≤ (255 : Int); omega) | (show _ ≤ (65535 : Int); omega))) ?_
  refine AList.c 24 rfl rfl rfl (OpJ.neq rfl rfl rfl) ?_
  refine AList.c0 rfl rfl (OpJ.mapUpdate (KeyOk.int .i64 .i64) (g := fun b => .p (.bool b)) (.inl rfl) rfl rfl rfl rfl mp144) ?_
  refine AList.nil ?_
  refine AWp.region ?_
  refine AList.c 25 rfl rfl rfl (OpJ.add rfl rfl rfl (i64ok ?_)) ?_
  · decide
  refine AList.c 14 rfl rfl rfl (OpJ.move rfl rfl) ?_
  refine AList.nil ?_
  refine ARounds.next ?_
  refine AWp.seq ?_
  refine AWp.region ?_
  refine AList.c 15 rfl rfl rfl (OpJ.lss rfl rfl rfl) ?_
  refine AList.nil ?_
  refine AWp.seq ?_
  refine AWp.condF rfl ?_
  refine AWp.exit ?_
  refine AWp.seq ?_
  refine AWp.to (To.frmC 0 1 (enc := PV.int .i64) (gp := PV.bool) (ms := [((0 : Int), !decide (((1 &&& s : Nat) : Int) = 0))]) (by decide) rfl rfl) ?_
  refine AWp.freeze 1 rfl rfl ?_
  refine AWp.norm [] [(0, _), (1, _), (5, .p (.ip [mapP (PV.int .i64) PV.bool [((0 : Int), !decide (((1 &&& s : Nat) : Int) = 0))]] 0))] [] rfl (by repeat (first | exact Sub.nil | refine Sub.cons rfl ?_)) rfl ?_
  refine AWp.regionDraw 15 mixed (by kernel_rfl) (by decide) ?_
  refine AQuiet.cons 26 rfl rfl rfl (OpJ.move rfl rfl) ?_
  refine AQuiet.cons 27 rfl rfl rfl (OpJ.nilCheckP rfl rfl) ?_
  refine AQuiet.cons 28 rfl rfl rfl (OpJ.fieldAddr rfl rfl fd142_0 rfl) ?_
  refine AQuiet.cons 29 rfl rfl rfl (OpJ.load (v := .p (intsV [a])) rfl rfl ty22 rfl) ?_
  refine AQuiet.cons 30 rfl rfl rfl (OpJ.move rfl rfl) ?_
  refine AQuiet.cons 31 rfl rfl rfl (OpJ.makeFunc rfl rfl rfl) ?_
  refine AQuiet.cons 32 rfl rfl rfl (OpJ.callP (osum_ok a (.func (.func 62) [.int .i64 (s : Int)] []) (.func (.func 63) [] []) (s.testBit 0) ha ⟨62, [.int .i64 (s : Int), .int .i64 ((0 : Nat) : Int)], rfl, rf62, ohas_ok s 0 hs⟩ ⟨63, [.int .i64 a], rfl, rf63, same_ok a⟩) rfl rfl rfl rfl rf61) ?_
  refine AQuiet.cons 33 rfl rfl rfl (OpJ.move rfl rfl) ?_
  refine AQuiet.cons 34 rfl rfl rfl (OpJ.nilCheckP rfl rfl) ?_
  refine AQuiet.cons 35 rfl rfl rfl (OpJ.fieldAddr rfl rfl fd142_1 rfl) ?_
  refine AQuiet.cons 36 rfl rfl rfl (OpJ.load (v := .p (intsV [b])) rfl rfl ty22 rfl) ?_
  refine AQuiet.cons 37 rfl rfl rfl (OpJ.makeFunc rfl rfl rfl) ?_
  refine AQuiet.cons 38 rfl rfl rfl (OpJ.callP (osum_ok b (.func (.func 64) [] [.ip [mapP (PV.int .i64) PV.bool [((0 : Int), !decide (((1 &&& s : Nat) : Int) = 0))]] 0]) (.func (.func 63) [] []) (!decide (((1 &&& s : Nat) : Int) = 0)) hb ⟨64, [.int .i64 0, .ip [mapP (PV.int .i64) PV.bool [((0 : Int), !decide (((1 &&& s : Nat) : Int) = 0))]] 0], rfl, rf64, there_ok _⟩ ⟨63, [.int .i64 b], rfl, rf63, same_ok b⟩) rfl rfl rfl rfl rf61) ?_
  refine AQuiet.cons 39 rfl rfl rfl (OpJ.sub_ rfl rfl rfl (i64ok ?_)) ?_
  · split <;> split <;> omega
  refine AQuiet.cons 4 rfl rfl rfl (OpJ.assign rfl rfl) ?_
  refine AQuiet.nil ?_
  refine AList.nil ?_
  refine AWp.ret ?_
  exact Fin.oneE rfl rfl rfl
def fateC (w : Bool) : List PV := [fateV w]
theorem newMarket_w (x : Sup) (o : Ord) (sh os : Nat) (hsh : x.sh = (sh : Int)) (hos : o.os = (os : Int)) (hs : sh < 256) (hb : sh.testBit os = true) (hr : x.rhi ≤ o.du) : Pure Tryd.prog 30 [saleV x o, fateV true] (.ip (mKC o.n x.lo) 0) := newMarket_ok true x o sh os hsh hos hs hb hr
theorem newMarket_b (x : Sup) (o : Ord) (sh os : Nat) (hsh : x.sh = (sh : Int)) (hos : o.os = (os : Int)) (hs : sh < 256) (hb : sh.testBit os = true) (hr : x.rlo ≤ o.du) : Pure Tryd.prog 30 [saleV x o, fateV false] (.ip (mKC o.n x.hi) 0) := newMarket_ok false x o sh os hsh hos hs hb hr
theorem meets_ok (a b : Int) (ha : -1073741824 ≤ a ∧ a ≤ 1073741824) (hb : -1073741824 ≤ b ∧ b ≤ 1073741824) : Pure Tryd.prog 31 [(.ip (mKC a b) 0), .int .i64 ((1 : Nat) : Int)] (.bool (decide (a - b ≤ 0))) := by
  refine Pure.start (N := 13) Tryd.func31 rfl rfl (Nat.le_of_ble_eq_true rfl) ?_
  refine AWp.seq ?_
  refine AWp.region ?_
  refine AList.c 2 rfl rfl rfl (OpJ.boxImm rfl rfl rfl) ?_
  refine AList.c 4 rfl rfl rfl (OpJ.allocOwn rfl zr4 rfl) ?_
  refine AList.nil ?_
  refine AWp.seq ?_
  refine AWp.seq ?_
  refine AWp.region ?_
  refine AList.c 6 rfl rfl rfl (OpJ.move rfl rfl) ?_
  refine AList.c 7 rfl rfl rfl (OpJ.callP (parts_ok 1) rfl rfl rfl rfl rf33) ?_
  refine AList.nil ?_
  refine AWp.block ?_
  refine AWp.rangeFunc 0 rfl (fun _ => rfl) rf60 (parts_seq 1 (by decide)) (Nat.le_refl _) (Nat.zero_le _) (fun _ h => by cases h) (fun x hx => by unfold prtX at hx; simp at hx; obtain ⟨j, _, rfl⟩ := hx; rfl) rfl (fun k h => h = [.cells [.p (.bool false)] 4] ∧ (1 < k → a - b ≤ 0)) (fun cd h => cd = .ret ∧ h = [.cells [.p (.bool false)] 4] ∧ a - b > 0) (fun _ _ h => by rw [h.1]; rfl) (fun _ _ h => by rw [h.2.1]; rfl) ⟨rfl, fun h => absurd h (by omega)⟩ ?_ ?_ ?_
  · skip
    intro lx tmps k h x hJ hx
    obtain ⟨rfl, hle⟩ := hJ
    obtain ⟨hk2, rfl⟩ := prt1_get hx
    refine AWp.region ?_
    refine AList.c 5 rfl rfl rfl (OpJ.assign rfl rfl) ?_
    refine AList.nil ?_
    refine ⟨rfl, rfl, ?_⟩
    refine AWp.block ?_
    refine AWp.seq ?_
    refine AWp.region ?_
    refine AList.c 9 rfl rfl rfl (OpJ.load (v := .p (.ip (mKC a b) 0)) rfl rfl ty97 rfl) ?_
    refine AList.c 10 rfl rfl rfl (OpJ.move rfl rfl) ?_
    refine AList.c 11 rfl rfl rfl (OpJ.callP (lacks_ok a b k (by omega) ha hb) rfl rfl rfl rfl rf34) ?_
    refine AList.c 12 rfl rfl rfl (OpJ.gtr rfl rfl rfl) ?_
    refine AList.nil ?_
    refine AWp.cond _ rfl (fun hc0 => ?_) (fun hc0 => ?_)
    · skip
      have hgt : lkN a b k > 0 := of_decide_eq_true hc0
      rw [lk_B a b hk2] at hgt
      have hgt2 : a - b > 0 := by split at hgt <;> omega
      refine AWp.seq ?_
      refine AWp.region ?_
      refine AList.c0 rfl rfl (OpJ.store rfl rfl rfl rfl rfl ty4 rfl rfl) ?_
      refine AList.nil ?_
      refine AWp.ret ?_
      exact ⟨_, ⟨rfl, rfl, hgt2⟩, To.sub Sub.nil⟩
    · skip
      have hng : ¬ lkN a b k > 0 := of_decide_eq_false hc0
      rw [lk_B a b hk2] at hng
      have hst : 1 < k + 1 → a - b ≤ 0 := fun h => by rw [if_neg (by omega)] at hng; omega
      refine AWp.skip ?_
      exact ⟨_, ⟨rfl, hst⟩, To.sub Sub.nil⟩
  · skip
    intro h hJ
    obtain ⟨rfl, hle⟩ := hJ
    have hle2 := hle (by rw [prt1_len]; decide)
    refine AWp.seq ?_
    refine AWp.region ?_
    refine AList.c0 rfl rfl (OpJ.store rfl rfl rfl rfl rfl ty4 rfl rfl) ?_
    refine AList.nil ?_
    refine AWp.ret ?_
    refine Fin.oneE rfl ⟨_, _, _, rfl, ty4, rfl⟩ ?_
    rw [decide_eq_true hle2]
  · skip
    intro cd h hx
    obtain ⟨rfl, rfl, hgt⟩ := hx
    refine AWp.ret ?_
    refine Fin.oneE rfl ⟨_, _, _, rfl, ty4, rfl⟩ ?_
    rw [decide_eq_false (by omega)]
theorem Meets_ok (x : Sup) (o : Ord) (sh os : Nat) (hsh : x.sh = (sh : Int)) (hos : o.os = (os : Int)) (hs : sh < 256) (hb : sh.testBit os = true) (hsu : supB x = false) (hor : ordB o = false) (hr1 : x.rhi ≤ o.du) (hr2 : x.rlo ≤ o.du) : Pure Tryd.prog 15 [saleV x o] (.tuple [.int .i64 (metN o.n x.lo x.hi), .int .i64 0]) := by
  obtain ⟨hB1, hB2⟩ := sup_B hsu
  have hB3 := ord_B hor
  refine Pure.start (N := 31) Tryd.func15 rfl rfl (Nat.le_of_ble_eq_true rfl) ?_
  refine AWp.seq ?_
  refine AWp.region ?_
  refine AList.c 1 rfl rfl rfl (OpJ.boxImm rfl rfl rfl) ?_
  refine AList.c 2 rfl rfl rfl (OpJ.assign rfl rfl) ?_
  refine AList.c 3 rfl rfl rfl (OpJ.assign rfl rfl) ?_
  refine AList.nil ?_
  refine AWp.seq ?_
  refine AWp.seq ?_
  refine AWp.region ?_
  refine AList.c 7 rfl rfl rfl (OpJ.load (v := .p (saleV x o)) rfl rfl ty61 rfl) ?_
  refine AList.c 8 rfl rfl rfl (OpJ.callP (isSale_ok x o) rfl rfl rfl rfl rf29) ?_
  refine AList.c 9 rfl rfl rfl (OpJ.not_ rfl rfl) ?_
  refine AList.nil ?_
  refine AWp.cond _ rfl (fun hc0 => ?_) (fun hc0 => ?_)
  · skip
    exfalso
    rw [hsu, hor] at hc0
    cases hc0
  · skip
    refine AWp.skip ?_
    refine AWp.seq ?_
    refine AWp.seq ?_
    refine AWp.region ?_
    refine AList.c 10 rfl rfl rfl (OpJ.build rfl bd92 rfl rfl) ?_
    refine AList.c 11 rfl rfl rfl (OpJ.makeIface rfl rfl con92) ?_
    refine AList.c 12 rfl rfl rfl (OpJ.build rfl bd93 rfl rfl) ?_
    refine AList.c 13 rfl rfl rfl (OpJ.makeIface rfl rfl con93) ?_
    refine AList.c 14 rfl rfl rfl (OpJ.buildImm rfl slz94 (by decide) rfl rfl rfl) ?_
    refine AList.c 15 rfl rfl rfl (OpJ.lenSlice rfl rfl sl94 rfl) ?_
    refine AList.c 16 rfl rfl rfl (OpJ.move rfl rfl) ?_
    refine AList.nil ?_
    refine AWp.block ?_
    refine AWp.unroll 3 ?_
    refine ARounds.next ?_
    refine AWp.norm [] [(1, _), (14, .p (.is ([true, false].flatMap fateC) [true, false].length)), (15, _), (16, _)] [] rfl (by repeat (first | exact Sub.nil | refine Sub.cons rfl ?_)) rfl ?_
    refine AWp.seq ?_
    refine AWp.region ?_
    refine AList.c 17 rfl rfl rfl (OpJ.lss rfl rfl rfl) ?_
    refine AList.nil ?_
    refine AWp.seq ?_
    refine AWp.condT rfl ?_
    refine AWp.skip ?_
    refine AWp.seq ?_
    refine AWp.block ?_
    refine AWp.seq ?_
    refine AWp.region ?_
    refine AList.c 18 rfl rfl rfl (OpJ.move rfl rfl) ?_
    refine AList.c 19 rfl rfl rfl (OpJ.indexG (g := fwN) (k := 0) fw_get rfl rfl rfl sl94 el94 rfl (fun _ => rfl) (by decide) (show 0 < 2 by decide)) ?_
    refine AList.c 20 rfl rfl rfl (OpJ.load (v := .p (fateV true)) rfl rfl ty96 rfl) ?_
    refine AList.c 4 rfl rfl rfl (OpJ.assign rfl rfl) ?_
    refine AList.c 5 rfl rfl rfl (OpJ.assign rfl rfl) ?_
    refine AList.nil ?_
    refine AWp.seq ?_
    refine AWp.region ?_
    refine AList.c 21 rfl rfl rfl (OpJ.load (v := .p (saleV x o)) rfl rfl ty61 rfl) ?_
    refine AList.c 22 rfl rfl rfl (OpJ.move rfl rfl) ?_
    refine AList.c 23 rfl rfl rfl (OpJ.callP (newMarket_w x o sh os hsh hos hs hb hr1) rfl rfl rfl rfl rf30) ?_
    refine AList.c 6 rfl rfl rfl (OpJ.assign rfl rfl) ?_
    refine AList.nil ?_
    refine AWp.seq ?_
    refine AWp.region ?_
    refine AList.c 24 rfl rfl rfl (OpJ.move rfl rfl) ?_
    refine AList.c 25 rfl rfl rfl (OpJ.move rfl rfl) ?_
    refine AList.c 26 rfl rfl rfl (OpJ.callP (mall_ok o.n x.lo) rfl rfl rfl rfl rf32) ?_
    refine AList.c 27 rfl rfl rfl (OpJ.callP (meets_ok o.n x.lo (by omega) (by omega)) rfl rfl rfl rfl rf31) ?_
    refine AList.nil ?_
    refine AWp.cond _ rfl (fun hc2 => ?_) (fun hc2 => ?_)
    · skip
      have hm0 := of_decide_eq_true hc2
      refine AWp.seq ?_
      refine AWp.region ?_
      refine AList.c 28 rfl rfl rfl (OpJ.move rfl rfl) ?_
      refine AList.c 29 rfl rfl rfl (OpJ.sub_ rfl rfl rfl (i64ok ?_)) ?_
      · decide
      refine AList.c 2 rfl rfl rfl (OpJ.assign rfl rfl) ?_
      refine AList.c 3 rfl rfl rfl (OpJ.assign rfl rfl) ?_
      refine AList.nil ?_
      refine AWp.ret ?_
      refine Fin.manyE (xs := [.int .i64 _, .int .i64 0]) rfl (⟨_, _, rfl, rfl, ⟨_, _, rfl, rfl, rfl⟩⟩) rfl ?_
      unfold metN; first | rw [if_pos hm0]; rfl | rw [if_neg hm0, if_pos hm1]; rfl
    · skip
      have hm0 := of_decide_eq_false hc2
      refine AWp.skip ?_
      refine AWp.region ?_
      refine AList.c 30 rfl rfl rfl (OpJ.add rfl rfl rfl (i64ok ?_)) ?_
      · decide
      refine AList.c 16 rfl rfl rfl (OpJ.move rfl rfl) ?_
      refine AList.nil ?_
      refine ARounds.next ?_
      refine AWp.seq ?_
      refine AWp.region ?_
      refine AList.c 17 rfl rfl rfl (OpJ.lss rfl rfl rfl) ?_
      refine AList.nil ?_
      refine AWp.seq ?_
      refine AWp.condT rfl ?_
      refine AWp.skip ?_
      refine AWp.seq ?_
      refine AWp.block ?_
      refine AWp.seq ?_
      refine AWp.region ?_
      refine AList.c 18 rfl rfl rfl (OpJ.move rfl rfl) ?_
      refine AList.c 19 rfl rfl rfl (OpJ.indexG (g := fwN) (k := 1) fw_get rfl rfl rfl sl94 el94 rfl (fun _ => rfl) (by decide) (show 1 < 2 by decide)) ?_
      refine AList.c 20 rfl rfl rfl (OpJ.load (v := .p (fateV false)) rfl rfl ty96 rfl) ?_
      refine AList.c 4 rfl rfl rfl (OpJ.assign rfl rfl) ?_
      refine AList.c 5 rfl rfl rfl (OpJ.assign rfl rfl) ?_
      refine AList.nil ?_
      refine AWp.seq ?_
      refine AWp.region ?_
      refine AList.c 21 rfl rfl rfl (OpJ.load (v := .p (saleV x o)) rfl rfl ty61 rfl) ?_
      refine AList.c 22 rfl rfl rfl (OpJ.move rfl rfl) ?_
      refine AList.c 23 rfl rfl rfl (OpJ.callP (newMarket_b x o sh os hsh hos hs hb hr2) rfl rfl rfl rfl rf30) ?_
      refine AList.c 6 rfl rfl rfl (OpJ.assign rfl rfl) ?_
      refine AList.nil ?_
      refine AWp.seq ?_
      refine AWp.region ?_
      refine AList.c 24 rfl rfl rfl (OpJ.move rfl rfl) ?_
      refine AList.c 25 rfl rfl rfl (OpJ.move rfl rfl) ?_
      refine AList.c 26 rfl rfl rfl (OpJ.callP (mall_ok o.n x.hi) rfl rfl rfl rfl rf32) ?_
      refine AList.c 27 rfl rfl rfl (OpJ.callP (meets_ok o.n x.hi (by omega) (by omega)) rfl rfl rfl rfl rf31) ?_
      refine AList.nil ?_
      refine AWp.cond _ rfl (fun hc2 => ?_) (fun hc2 => ?_)
      · skip
        have hm1 := of_decide_eq_true hc2
        refine AWp.seq ?_
        refine AWp.region ?_
        refine AList.c 28 rfl rfl rfl (OpJ.move rfl rfl) ?_
        refine AList.c 29 rfl rfl rfl (OpJ.sub_ rfl rfl rfl (i64ok ?_)) ?_
        · decide
        refine AList.c 2 rfl rfl rfl (OpJ.assign rfl rfl) ?_
        refine AList.c 3 rfl rfl rfl (OpJ.assign rfl rfl) ?_
        refine AList.nil ?_
        refine AWp.ret ?_
        refine Fin.manyE (xs := [.int .i64 _, .int .i64 0]) rfl (⟨_, _, rfl, rfl, ⟨_, _, rfl, rfl, rfl⟩⟩) rfl ?_
        unfold metN; first | rw [if_pos hm0]; rfl | rw [if_neg hm0, if_pos hm1]; rfl
      · skip
        have hm1 := of_decide_eq_false hc2
        refine AWp.skip ?_
        refine AWp.region ?_
        refine AList.c 30 rfl rfl rfl (OpJ.add rfl rfl rfl (i64ok ?_)) ?_
        · decide
        refine AList.c 16 rfl rfl rfl (OpJ.move rfl rfl) ?_
        refine AList.nil ?_
        refine ARounds.next ?_
        refine AWp.seq ?_
        refine AWp.region ?_
        refine AList.c 17 rfl rfl rfl (OpJ.lss rfl rfl rfl) ?_
        refine AList.nil ?_
        refine AWp.seq ?_
        refine AWp.condF rfl ?_
        refine AWp.exit ?_
        refine AWp.seq ?_
        refine AWp.region ?_
        refine AList.c 2 rfl rfl rfl (OpJ.assign rfl rfl) ?_
        refine AList.c 3 rfl rfl rfl (OpJ.assign rfl rfl) ?_
        refine AList.nil ?_
        refine AWp.ret ?_
        refine Fin.manyE (xs := [.int .i64 0, .int .i64 0]) rfl (⟨_, _, rfl, rfl, ⟨_, _, rfl, rfl, rfl⟩⟩) rfl ?_
        unfold metN; rw [if_neg hm0, if_neg hm1]
theorem Lack_ok (x : Sup) (o : Ord) (sh os : Nat) (hsh : x.sh = (sh : Int)) (hos : o.os = (os : Int)) (hs : sh < 256) (hb : sh.testBit os = true) (hsu : supB x = false) (hor : ordB o = false) (hr1 : x.rhi ≤ o.du) : Pure Tryd.prog 16 [saleV x o] (.tuple [.int .i64 ((mostF o.n x.lo 2).1 : Int), .int .i64 (mostF o.n x.lo 2).2, .int .i64 (if o.n - x.lo > 0 then 0 else 4)]) := by
  obtain ⟨hB1, hB2⟩ := sup_B hsu
  have hB3 := ord_B hor
  refine Pure.start (N := 36) Tryd.func16 rfl rfl (Nat.le_of_ble_eq_true rfl) ?_
  refine AWp.seq ?_
  refine AWp.region ?_
  refine AList.c 1 rfl rfl rfl (OpJ.boxImm rfl rfl rfl) ?_
  refine AList.c 2 rfl rfl rfl (OpJ.assign rfl rfl) ?_
  refine AList.c 3 rfl rfl rfl (OpJ.assign rfl rfl) ?_
  refine AList.c 4 rfl rfl rfl (OpJ.assign rfl rfl) ?_
  refine AList.nil ?_
  refine AWp.seq ?_
  refine AWp.seq ?_
  refine AWp.region ?_
  refine AList.c 9 rfl rfl rfl (OpJ.load (v := .p (saleV x o)) rfl rfl ty61 rfl) ?_
  refine AList.c 10 rfl rfl rfl (OpJ.callP (isSale_ok x o) rfl rfl rfl rfl rf29) ?_
  refine AList.c 11 rfl rfl rfl (OpJ.not_ rfl rfl) ?_
  refine AList.nil ?_
  refine AWp.cond _ rfl (fun hc0 => ?_) (fun hc0 => ?_)
  · skip
    exfalso
    rw [hsu, hor] at hc0
    cases hc0
  · skip
    refine AWp.skip ?_
    refine AWp.seq ?_
    refine AWp.region ?_
    refine AList.c 12 rfl rfl rfl (OpJ.load (v := .p (saleV x o)) rfl rfl ty61 rfl) ?_
    refine AList.c 13 rfl rfl rfl (OpJ.build rfl bd92 rfl rfl) ?_
    refine AList.c 14 rfl rfl rfl (OpJ.makeIface rfl rfl con92) ?_
    refine AList.c 15 rfl rfl rfl (OpJ.callP (newMarket_w x o sh os hsh hos hs hb hr1) rfl rfl rfl rfl rf30) ?_
    refine AList.c 5 rfl rfl rfl (OpJ.allocOwn rfl zr97 rfl) ?_
    refine AList.c0 rfl rfl (OpJ.store rfl rfl rfl rfl rfl ty97 rfl rfl) ?_
    refine AList.nil ?_
    refine AWp.seq ?_
    refine AWp.region ?_
    refine AList.c 6 rfl rfl rfl (OpJ.allocOwn rfl zr103 rfl) ?_
    refine AList.nil ?_
    refine AWp.seq ?_
    refine AWp.seq ?_
    refine AWp.region ?_
    refine AList.c 16 rfl rfl rfl (OpJ.load (v := .p (.ip (mKC o.n x.lo) 0)) rfl rfl ty97 rfl) ?_
    refine AList.c 17 rfl rfl rfl (OpJ.callP (mall_ok o.n x.lo) rfl rfl rfl rfl rf32) ?_
    refine AList.c 18 rfl rfl rfl (OpJ.callP (parts_ok 1) rfl rfl rfl rfl rf33) ?_
    refine AList.nil ?_
    refine AWp.block ?_
    refine AWp.norm [0, 1] [(5, _), (6, _), (18, _)] [.cells [.p (.ip (mKC o.n x.lo) 0)] 97, .cells [.p (.int .i64 ((mostF o.n x.lo 0).1 : Int)), .p (.int .i64 (mostF o.n x.lo 0).2)] 103] rfl (by repeat (first | exact Sub.nil | refine Sub.cons rfl ?_)) rfl ?_
    refine AWp.rangeFunc 0 rfl (fun _ => rfl) rf60 (parts_seq 1 (by decide)) (Nat.le_refl _) (Nat.zero_le _) (fun _ h => by cases h) (fun x hx => by unfold prtX at hx; simp at hx; obtain ⟨j, _, rfl⟩ := hx; rfl) rfl (fun k h => h = [.cells [.p (.ip (mKC o.n x.lo) 0)] 97, .cells [.p (.int .i64 ((mostF o.n x.lo k).1 : Int)), .p (.int .i64 (mostF o.n x.lo k).2)] 103]) (fun c h => False) (fun _ _ h => by rw [h]; rfl) (fun _ _ h => h.elim) rfl ?_ ?_ ?_
    · skip
      intro lx tmps k h x hJ hx
      subst hJ
      obtain ⟨hk2, rfl⟩ := prt1_get hx
      refine AWp.region ?_
      refine AList.c 7 rfl rfl rfl (OpJ.assign rfl rfl) ?_
      refine AList.nil ?_
      refine ⟨rfl, rfl, ?_⟩
      refine AWp.block ?_
      refine AWp.seq ?_
      refine AWp.region ?_
      refine AList.c 20 rfl rfl rfl (OpJ.move rfl rfl) ?_
      refine AList.c 21 rfl rfl rfl (OpJ.load (v := .p (.ip (mKC o.n x.lo) 0)) rfl rfl ty97 rfl) ?_
      refine AList.c 22 rfl rfl rfl (OpJ.move rfl rfl) ?_
      refine AList.c 23 rfl rfl rfl (OpJ.callP (lacks_ok o.n x.lo k (by omega) (by omega) (by omega)) rfl rfl rfl rfl rf34) ?_
      refine AList.c 24 rfl rfl rfl (OpJ.buildR (v := .p (.agg [.int .i64 ((k : Nat) : Int), .int .i64 (lkN o.n x.lo k)])) rfl bd103 rfl rfl rfl) ?_
      refine AList.c 8 rfl rfl rfl (OpJ.allocOwn rfl zr103 rfl) ?_
      refine AList.c0 rfl rfl (OpJ.store rfl rfl rfl rfl rfl ty103 rfl rfl) ?_
      refine AList.nil ?_
      refine AWp.seq ?_
      refine AWp.region ?_
      refine AList.c 25 rfl rfl rfl (OpJ.load (v := .p (.agg [.int .i64 ((k : Nat) : Int), .int .i64 (lkN o.n x.lo k)])) rfl rfl ty103 rfl) ?_
      refine AList.c 26 rfl rfl rfl (OpJ.load (v := .p (.agg [.int .i64 ((mostF o.n x.lo k).1 : Int), .int .i64 (mostF o.n x.lo k).2])) rfl rfl ty103 rfl) ?_
      refine AList.c 27 rfl rfl rfl (OpJ.callP (worse_ok k (mostF o.n x.lo k).1 (lkN o.n x.lo k) (mostF o.n x.lo k).2 (by omega) (most_lt2 _ _ _)) rfl rfl rfl rfl rf35) ?_
      refine AList.nil ?_
      refine AWp.cond _ rfl (fun hc1 => ?_) (fun hc1 => ?_)
      · skip
        have hst := most_ST hk2 hc1
        refine AWp.region ?_
        refine AList.c 28 rfl rfl rfl (OpJ.load (v := .p (.agg [.int .i64 ((k : Nat) : Int), .int .i64 (lkN o.n x.lo k)])) rfl rfl ty103 rfl) ?_
        refine AList.c0 rfl rfl (OpJ.store rfl rfl rfl rfl rfl ty103 rfl rfl) ?_
        refine AList.nil ?_
        refine ⟨_, rfl, To.done [0, 1, 2] rfl Sub.nil ?_⟩
        rw [hst]
        rfl
      · skip
        have hst := most_SF hk2 hc1
        refine AWp.skip ?_
        refine ⟨_, rfl, To.done [0, 1, 2] rfl Sub.nil ?_⟩
        rw [hst]
        rfl
    · skip
      intro h hJ
      subst hJ
      rw [prt1_len]
      have hm2 : o.n - x.lo > 0 → mostF o.n x.lo 2 = (1, o.n - x.lo) := fun h => by unfold mostF; rw [if_pos ⟨Nat.le_refl 2, h⟩]
      refine AWp.seq ?_
      refine AWp.seq ?_
      refine AWp.region ?_
      refine AList.c 29 rfl rfl rfl (OpJ.load (v := .p (.agg [.int .i64 ((mostF o.n x.lo 2).1 : Int), .int .i64 (mostF o.n x.lo 2).2])) rfl rfl ty103 rfl) ?_
      refine AList.c 30 rfl rfl rfl (OpJ.build rfl bd103 rfl rfl) ?_
      refine AList.c 31 rfl rfl rfl (OpJ.eqAgg (d := 8) rfl (.inl rfl) rfl rfl (by decide) eq103 ty103 rfl eg103 rfl) ?_
      refine AList.nil ?_
      refine AWp.cond _ rfl (fun hc2 => ?_) (fun hc2 => ?_)
      · skip
        have hng : ¬ o.n - x.lo > 0 := by intro h; rw [hm2 h] at hc2; simp at hc2
        have hm : mostF o.n x.lo 2 = (0, 0) := by unfold mostF; rw [if_neg (fun h => hng h.2)]
        refine AWp.seq ?_
        refine AWp.region ?_
        refine AList.c 2 rfl rfl rfl (OpJ.assign rfl rfl) ?_
        refine AList.c 3 rfl rfl rfl (OpJ.assign rfl rfl) ?_
        refine AList.c 4 rfl rfl rfl (OpJ.assign rfl rfl) ?_
        refine AList.nil ?_
        refine AWp.ret ?_
        refine Fin.manyE (xs := [.int .i64 0, .int .i64 0, .int .i64 4]) rfl (⟨_, _, rfl, rfl, ⟨_, _, rfl, rfl, ⟨_, _, rfl, rfl, rfl⟩⟩⟩) rfl ?_
        rw [hm, if_neg hng]; rfl
      · skip
        have hgt : o.n - x.lo > 0 := by rcases Decidable.em (o.n - x.lo > 0) with h | h; { exact h }; { exfalso; rw [show mostF o.n x.lo 2 = (0, 0) from by unfold mostF; rw [if_neg (fun e => h e.2)]] at hc2; simp at hc2 }
        refine AWp.skip ?_
        refine AWp.seq ?_
        refine AWp.regionDraw 7 mixed (by kernel_rfl) (by decide) ?_
        refine AQuiet.cons 32 rfl rfl rfl (OpJ.fieldAddr rfl rfl fd103_0 rfl) ?_
        refine AQuiet.cons 33 rfl rfl rfl (OpJ.load (v := .p (.int .i64 ((mostF o.n x.lo 2).1 : Int))) rfl rfl ty100 rfl) ?_
        refine AQuiet.cons 34 rfl rfl rfl (OpJ.fieldAddr rfl rfl fd103_1 rfl) ?_
        refine AQuiet.cons 35 rfl rfl rfl (OpJ.load (v := .p (.int .i64 (mostF o.n x.lo 2).2)) rfl rfl ty3 rfl) ?_
        refine AQuiet.cons 2 rfl rfl rfl (OpJ.assign rfl rfl) ?_
        refine AQuiet.cons 3 rfl rfl rfl (OpJ.assign rfl rfl) ?_
        refine AQuiet.cons 4 rfl rfl rfl (OpJ.assign rfl rfl) ?_
        refine AQuiet.nil ?_
        refine AList.nil ?_
        refine AWp.ret ?_
        refine Fin.manyE (xs := [.int .i64 ((mostF o.n x.lo 2).1 : Int), .int .i64 (mostF o.n x.lo 2).2, .int .i64 0]) rfl (⟨_, _, rfl, rfl, ⟨_, _, rfl, rfl, ⟨_, _, rfl, rfl, rfl⟩⟩⟩) rfl ?_
        rw [if_pos hgt]
    · skip
      intro c h hx
      exact hx.elim
theorem power_ok (n : Nat) (hn : n ≤ 62) : Pure Tryd.prog 53 [.int .i64 (n : Int)] (.int .i64 (pw n)) := by
  refine Pure.start (N := 13) Tryd.func53 rfl rfl (Nat.le_of_ble_eq_true rfl) ?_
  refine AWp.seq ?_
  refine AWp.region ?_
  refine AList.c 2 rfl rfl rfl (OpJ.assign rfl rfl) ?_
  refine AList.nil ?_
  refine AWp.seq ?_
  refine AWp.region ?_
  refine AList.c 3 rfl rfl rfl (OpJ.assign rfl rfl) ?_
  refine AList.nil ?_
  refine AWp.seq ?_
  refine AWp.seq ?_
  refine AWp.region ?_
  refine AList.c 4 rfl rfl rfl (OpJ.assign rfl rfl) ?_
  refine AList.nil ?_
  refine AWp.block ?_
  refine AWp.loopKL [0, 2, 12] (fun g => [(4, .p (.int .i64 ((g : Nat) : Int))), (3, .p (.int .i64 (pw g)))]) (fun g => g ≤ n) (fun g => n - g) 0 (Nat.zero_le _) (Sub.cons rfl (Sub.cons rfl (Sub.nil))) (fun j hg => ?_)
  refine AWp.seq ?_
  refine AWp.seq ?_
  refine AWp.region ?_
  refine AList.c 5 rfl rfl rfl (OpJ.move rfl rfl) ?_
  refine AList.c 6 rfl rfl rfl (OpJ.move rfl rfl) ?_
  refine AList.c 7 rfl rfl rfl (OpJ.lss rfl rfl rfl) ?_
  refine AList.nil ?_
  refine AWp.cond _ rfl (fun hc0 => ?_) (fun hc0 => ?_)
  · skip
    have hk0 : j < n := by have h := of_decide_eq_true hc0; omega
    have hp := pw62 (n := j + 1) (by omega)
    have hs := pw_succ j
    refine AWp.skip ?_
    refine AWp.seq ?_
    refine AWp.block ?_
    refine AWp.region ?_
    refine AList.c 10 rfl rfl rfl (OpJ.move rfl rfl) ?_
    refine AList.c 11 rfl rfl rfl (OpJ.mul rfl rfl rfl (i64ok ?_)) ?_
    · omega
    refine AList.c 3 rfl rfl rfl (OpJ.assign rfl rfl) ?_
    refine AList.nil ?_
    refine AWp.region ?_
    refine AList.c 8 rfl rfl rfl (OpJ.move rfl rfl) ?_
    refine AList.c 9 rfl rfl rfl (OpJ.add rfl rfl rfl (i64ok ?_)) ?_
    · omega
    refine AList.c 4 rfl rfl rfl (OpJ.assign rfl rfl) ?_
    refine AList.nil ?_
    refine ⟨j + 1, ?_, ?_, ?_⟩
    · omega
    · omega
    exact To.done [] rfl (Sub.cons rfl (Sub.cons (by rw [hs]; rfl) (by repeat (first | exact Sub.nil | refine Sub.cons rfl ?_)))) rfl
  · skip
    obtain rfl : j = n := by have h := of_decide_eq_false hc0; omega
    refine AWp.exit ?_
    refine AWp.seq ?_
    refine AWp.region ?_
    refine AList.c 12 rfl rfl rfl (OpJ.move rfl rfl) ?_
    refine AList.c 2 rfl rfl rfl (OpJ.assign rfl rfl) ?_
    refine AList.nil ?_
    refine AWp.ret ?_
    exact Fin.one rfl (rfl)
theorem rhas_ok (s b : Nat) (hs : s ≤ 4611686018427387904) (hb : b ≤ 62) : Pure Tryd.prog 28 [.int .i64 (s : Int), .int .i64 (b : Int)] (.bool (s.testBit b)) := by
  have hp := pw62 hb
  have hd := Nat.div_le_self s (2 ^ b)
  refine Pure.start (N := 11) Tryd.func28 rfl rfl (Nat.le_of_ble_eq_true rfl) ?_
  refine AWp.seq ?_
  refine AWp.region ?_
  refine AList.c 4 rfl rfl rfl (OpJ.assign rfl rfl) ?_
  refine AList.nil ?_
  refine AWp.seq ?_
  refine AWp.region ?_
  refine AList.c 5 rfl rfl rfl (OpJ.move rfl rfl) ?_
  refine AList.c 6 rfl rfl rfl (OpJ.move rfl rfl) ?_
  refine AList.c 7 rfl rfl rfl (OpJ.callP (power_ok b hb) rfl rfl rfl rfl rf53) ?_
  refine AList.c 8 rfl rfl rfl (OpJ.quo (m := ((s / 2 ^ b : Nat) : Int)) rfl rfl rfl (by omega) ((i64ok (by show _ ≤ ((s / 2 ^ b : Nat) : Int) ∧ ((s / 2 ^ b : Nat) : Int) ≤ _; generalize s / 2 ^ b = q at hd ⊢; omega)).trans rfl)) ?_
  refine AList.c 9 rfl rfl rfl (OpJ.rem (m := ((s / 2 ^ b % 2 : Nat) : Int)) rfl rfl rfl ?_ ?_) ?_
  · decide
  · rfl
  refine AList.c 10 rfl rfl rfl (OpJ.eql rfl rfl rfl) ?_
  refine AList.c 4 rfl rfl rfl (OpJ.assign rfl rfl) ?_
  refine AList.nil ?_
  refine AWp.ret ?_
  refine Fin.oneE rfl rfl ?_
  rw [Nat.testBit_eq_decide_div_mod_eq]
  exact congrArg PV.bool (decide_eq_decide.2 (by omega))
theorem rsize_ok (s : Nat) (hs : s < 256) : Pure Tryd.prog 13 [.int .i64 (s : Int)] (.int .i64 ((szN s : Nat) : Int)) := by
  refine Pure.start (N := 15) Tryd.func13 rfl rfl (Nat.le_of_ble_eq_true rfl) ?_
  refine AWp.seq ?_
  refine AWp.region ?_
  refine AList.c 2 rfl rfl rfl (OpJ.assign rfl rfl) ?_
  refine AList.nil ?_
  refine AWp.seq ?_
  refine AWp.region ?_
  refine AList.c 3 rfl rfl rfl (OpJ.assign rfl rfl) ?_
  refine AList.nil ?_
  refine AWp.seq ?_
  refine AWp.seq ?_
  refine AWp.region ?_
  refine AList.c 4 rfl rfl rfl (OpJ.assign rfl rfl) ?_
  refine AList.nil ?_
  refine AWp.block ?_
  refine AWp.loopKL [0, 2, 14] (fun g => [(4, .p (.int .i64 ((g : Nat) : Int))), (3, .p (.int .i64 (((bitsN s g).length : Nat) : Int)))]) (fun g => g ≤ 8) (fun g => 8 - g) 0 (Nat.zero_le _) (Sub.cons rfl (Sub.cons rfl (Sub.nil))) (fun i hg => ?_)
  refine AWp.seq ?_
  refine AWp.seq ?_
  refine AWp.region ?_
  refine AList.c 5 rfl rfl rfl (OpJ.move rfl rfl) ?_
  refine AList.c 6 rfl rfl rfl (OpJ.lss rfl rfl rfl) ?_
  refine AList.nil ?_
  refine AWp.cond _ rfl (fun hc0 => ?_) (fun hc0 => ?_)
  · skip
    have hk0 : i < 8 := by have h := of_decide_eq_true hc0; omega
    have hbl := bits_len s i
    refine AWp.skip ?_
    refine AWp.seq ?_
    refine AWp.block ?_
    refine AWp.seq ?_
    refine AWp.region ?_
    refine AList.c 9 rfl rfl rfl (OpJ.move rfl rfl) ?_
    refine AList.c 10 rfl rfl rfl (OpJ.move rfl rfl) ?_
    refine AList.c 11 rfl rfl rfl (OpJ.callP (rhas_ok s i (by omega) (by omega)) rfl rfl rfl rfl rf28) ?_
    refine AList.nil ?_
    refine AWp.cond _ rfl (fun hc1 => ?_) (fun hc1 => ?_)
    · skip
      have hst : (bitsN s (i + 1)).length = (bitsN s i).length + 1 := by rw [bitsN_succ, if_pos hc1, List.length_append]; rfl
      refine AWp.region ?_
      refine AList.c 12 rfl rfl rfl (OpJ.move rfl rfl) ?_
      refine AList.c 13 rfl rfl rfl (OpJ.add (m := (((bitsN s i).length + 1 : Nat) : Int)) rfl rfl rfl ((i64ok ?_).trans ?_)) ?_
      · omega
      · rfl
      refine AList.c 3 rfl rfl rfl (OpJ.assign rfl rfl) ?_
      refine AList.nil ?_
      refine AWp.region ?_
      refine AList.c 7 rfl rfl rfl (OpJ.move rfl rfl) ?_
      refine AList.c 8 rfl rfl rfl (OpJ.add rfl rfl rfl (i64ok ?_)) ?_
      · omega
      refine AList.c 4 rfl rfl rfl (OpJ.assign rfl rfl) ?_
      refine AList.nil ?_
      refine ⟨i + 1, ?_, ?_, ?_⟩
      · omega
      · omega
      refine To.done [] rfl (Sub.cons rfl (Sub.cons (by rw [hst]; rfl) (by repeat (first | exact Sub.nil | refine Sub.cons rfl ?_)))) rfl
    · skip
      have hst : (bitsN s (i + 1)).length = (bitsN s i).length := by rw [bitsN_succ, if_neg (by rw [hc1]; decide)]
      refine AWp.skip ?_
      refine AWp.region ?_
      refine AList.c 7 rfl rfl rfl (OpJ.move rfl rfl) ?_
      refine AList.c 8 rfl rfl rfl (OpJ.add rfl rfl rfl (i64ok ?_)) ?_
      · omega
      refine AList.c 4 rfl rfl rfl (OpJ.assign rfl rfl) ?_
      refine AList.nil ?_
      refine ⟨i + 1, ?_, ?_, ?_⟩
      · omega
      · omega
      refine To.done [] rfl (Sub.cons rfl (Sub.cons (by rw [hst]; rfl) (by repeat (first | exact Sub.nil | refine Sub.cons rfl ?_)))) rfl
  · skip
    obtain rfl : i = 8 := by have h := of_decide_eq_false hc0; omega
    refine AWp.exit ?_
    refine AWp.seq ?_
    refine AWp.region ?_
    refine AList.c 14 rfl rfl rfl (OpJ.move rfl rfl) ?_
    refine AList.c 2 rfl rfl rfl (OpJ.assign rfl rfl) ?_
    refine AList.nil ?_
    refine AWp.ret ?_
    exact Fin.oneE rfl rfl rfl
theorem rbad_ok (a b r k : Nat) (ha : a < 256) (hb : b < 256) (hr : r ≤ 62) (hk : k ≤ 62) : Pure Tryd.prog 14 [.agg [.int .i64 (a : Int), .int .i64 (b : Int)], .int .i64 (r : Int), .int .i64 (k : Int)] (.bool (badB a b r k)) := by
  refine Pure.start (N := 17) Tryd.func14 rfl rfl (Nat.le_of_ble_eq_true rfl) ?_
  refine AWp.seq ?_
  refine AWp.region ?_
  refine AList.c 3 rfl rfl rfl (OpJ.boxImm rfl rfl rfl) ?_
  refine AList.c 6 rfl rfl rfl (OpJ.assign rfl rfl) ?_
  refine AList.nil ?_
  refine AWp.seq ?_
  refine AWp.region ?_
  refine AList.c 7 rfl rfl rfl (OpJ.fieldAddr rfl rfl fd50_0 rfl) ?_
  refine AList.c 8 rfl rfl rfl (OpJ.load (v := .p (.int .i64 (a : Int))) rfl rfl ty3 rfl) ?_
  refine AList.c 9 rfl rfl rfl (OpJ.move rfl rfl) ?_
  refine AList.c 10 rfl rfl rfl (OpJ.callP (rhas_ok a r (by omega) hr) rfl rfl rfl rfl rf28) ?_
  refine AList.c 11 rfl rfl rfl (OpJ.move rfl rfl) ?_
  refine AList.g 12 11 rfl rfl rfl rfl rfl rfl rfl [(3, _)] (fun h => And.intro (.inl rfl) (trivial)) (fun h => (OpJ.fieldAddr rfl rfl fd50_1 rfl)) ?_
  refine AList.g 13 11 rfl rfl rfl rfl rfl rfl rfl [(12, _)] (fun h => And.intro (.inr ⟨_, rfl, h⟩) (trivial)) (fun h => (OpJ.load (v := .p (.int .i64 (b : Int))) rfl rfl ty3 rfl)) ?_
  refine AList.g 14 11 rfl rfl rfl rfl rfl rfl rfl [(2, _)] (fun h => And.intro (.inl rfl) (trivial)) (fun h => (OpJ.move rfl rfl)) ?_
  refine AList.g 15 11 rfl rfl rfl rfl rfl rfl rfl [(13, _), (14, _)] (fun h => And.intro (.inr ⟨_, rfl, h⟩) (And.intro (.inr ⟨_, rfl, h⟩) (trivial))) (fun h => (OpJ.callP (rhas_ok b k (by omega) hk) rfl rfl rfl rfl rf28)) ?_
  refine AList.c 16 rfl rfl rfl (OpJ.or_ rfl rfl rfl ?_) ?_
  · first | (intro h; rw [h]; rfl) | (intro h; simp_all)
  refine AList.c 6 rfl rfl rfl (OpJ.assign rfl rfl) ?_
  refine AList.nil ?_
  refine AWp.ret ?_
  exact Fin.one rfl (rfl)
theorem rmany_ok (c : Crt) (a b : Nat) (hc : crB c = true) (ha : a < 256) (hb : b < 2 ^ c.cols.toNat) : Pure Tryd.prog 17 [crV c, .agg [.int .i64 (a : Int), .int .i64 (b : Int)]] (.int .i64 (manyN c a b)) := by
  obtain ⟨⟨hR1, hR⟩, ⟨hC1, hC⟩, hrn, _⟩ := crB_of hc
  have hmall := fun r => mnR_all hc a hb r
  obtain ⟨C, hCn⟩ : ∃ n : Nat, c.cols = n := ⟨c.cols.toNat, by omega⟩
  have hCt : c.cols.toNat = C := by omega
  rw [hCt] at hb
  have hb8 : b < 256 := Nat.lt_of_lt_of_le hb (Nat.pow_le_pow_right (show 0 < 2 by omega) (show C ≤ 8 by omega))
  refine Pure.start (N := 33) Tryd.func17 rfl rfl (Nat.le_of_ble_eq_true rfl) ?_
  refine AWp.seq ?_
  refine AWp.region ?_
  refine AList.c 2 rfl rfl rfl (OpJ.boxImm rfl rfl rfl) ?_
  refine AList.c 3 rfl rfl rfl (OpJ.boxImm rfl rfl rfl) ?_
  refine AList.c 4 rfl rfl rfl (OpJ.assign rfl rfl) ?_
  refine AList.nil ?_
  refine AWp.seq ?_
  refine AWp.region ?_
  refine AList.c 5 rfl rfl rfl (OpJ.assign rfl rfl) ?_
  refine AList.nil ?_
  refine AWp.seq ?_
  refine AWp.seq ?_
  refine AWp.region ?_
  refine AList.c 6 rfl rfl rfl (OpJ.assign rfl rfl) ?_
  refine AList.nil ?_
  refine AWp.block ?_
  refine AWp.loopKL [2, 3, 4, 32] (fun g => [(6, .p (.int .i64 ((g : Nat) : Int))), (5, .p (.int .i64 (manyF c a b g)))]) (fun g => g ≤ c.rows.length) (fun g => c.rows.length - g) 0 (Nat.zero_le _) (Sub.cons rfl (Sub.cons rfl (Sub.nil))) (fun r hg => ?_)
  refine AWp.seq ?_
  refine AWp.seq ?_
  refine AWp.region ?_
  refine AList.c 8 rfl rfl rfl (OpJ.move rfl rfl) ?_
  refine AList.c 9 rfl rfl rfl (OpJ.fieldAddr rfl rfl fd24_0 rfl) ?_
  refine AList.c 10 rfl rfl rfl (OpJ.load (v := .p (intsV c.rows)) rfl rfl ty22 rfl) ?_
  refine AList.c 11 rfl rfl rfl (OpJ.lenSlice rfl rfl sl22 rfl) ?_
  refine AList.c 12 rfl rfl rfl (OpJ.lss rfl rfl rfl) ?_
  refine AList.nil ?_
  refine AWp.cond _ rfl (fun hc0 => ?_) (fun hc0 => ?_)
  · skip
    have hk0 : r < c.rows.length := by have h := of_decide_eq_true hc0; omega
    have hB1 := manyF_B hc a b r (by omega)
    have hB3 := hrn _ (nt_mem hk0)
    refine AWp.skip ?_
    refine AWp.seq ?_
    refine AWp.block ?_
    refine AWp.seq ?_
    refine AWp.region ?_
    refine AList.c 7 rfl rfl rfl (OpJ.assign rfl rfl) ?_
    refine AList.nil ?_
    refine AWp.block ?_
    refine AWp.loopKL [2, 3, 4, 6, 8, 9, 10, 11, 12, 13, 14, 32] (fun g => [(7, .p (.int .i64 ((g : Nat) : Int))), (5, .p (.int .i64 (manyF c a b r + mnR c a b r g)))]) (fun g => g ≤ C) (fun g => C - g) 0 (Nat.zero_le _) (Sub.cons rfl (Sub.cons (by rw [show mnR c a b r 0 = 0 from rfl, Int.add_zero]; rfl) Sub.nil)) (fun k hh => ?_)
    refine AWp.seq ?_
    refine AWp.seq ?_
    refine AWp.region ?_
    refine AList.c 15 rfl rfl rfl (OpJ.move rfl rfl) ?_
    refine AList.c 16 rfl rfl rfl (OpJ.fieldAddr rfl rfl fd24_1 rfl) ?_
    refine AList.c 17 rfl rfl rfl (OpJ.load (v := .p (.int .i64 c.cols)) rfl rfl ty3 rfl) ?_
    refine AList.c 18 rfl rfl rfl (OpJ.lss rfl rfl rfl) ?_
    refine AList.nil ?_
    refine AWp.cond _ rfl (fun hc1 => ?_) (fun hc1 => ?_)
    · skip
      have hj0 : k < C := by have h := of_decide_eq_true hc1; omega
      have hB2 := mnR_B hc a b hk0 k
      refine AWp.skip ?_
      refine AWp.seq ?_
      refine AWp.block ?_
      refine AWp.seq ?_
      refine AWp.region ?_
      refine AList.c 21 rfl rfl rfl (OpJ.load (v := .p (.agg [.int .i64 (a : Int), .int .i64 (b : Int)])) rfl rfl ty50 rfl) ?_
      refine AList.c 22 rfl rfl rfl (OpJ.move rfl rfl) ?_
      refine AList.c 23 rfl rfl rfl (OpJ.move rfl rfl) ?_
      refine AList.c 24 rfl rfl rfl (OpJ.callP (rbad_ok a b r k ha hb8 (by omega) (by omega)) rfl rfl rfl rfl rf14) ?_
      refine AList.nil ?_
      refine AWp.cond _ rfl (fun hc2 => ?_) (fun hc2 => ?_)
      · skip
        have hst : mnR c a b r (k + 1) = mnR c a b r k + nt c.rows r := by rw [mnR, if_pos hc2]
        refine AWp.region ?_
        refine AList.c 25 rfl rfl rfl (OpJ.move rfl rfl) ?_
        refine AList.c 26 rfl rfl rfl (OpJ.fieldAddr rfl rfl fd24_0 rfl) ?_
        refine AList.c 27 rfl rfl rfl (OpJ.load (v := .p (intsV c.rows)) rfl rfl ty22 rfl) ?_
        refine AList.c 28 rfl rfl rfl (OpJ.move rfl rfl) ?_
        refine AList.c 29 rfl rfl rfl (OpJ.indexG (g := nt c.rows) nt_get rfl rfl rfl sl22 el22 rfl (fun _ => rfl) (by decide) hk0) ?_
        refine AList.c 30 rfl rfl rfl (OpJ.load (v := .p (.int .i64 (nt c.rows r))) rfl rfl ty3 rfl) ?_
        refine AList.c 31 rfl rfl rfl (OpJ.add rfl rfl rfl (i64ok ?_)) ?_
        · omega
        refine AList.c 5 rfl rfl rfl (OpJ.assign rfl rfl) ?_
        refine AList.nil ?_
        refine AWp.region ?_
        refine AList.c 19 rfl rfl rfl (OpJ.move rfl rfl) ?_
        refine AList.c 20 rfl rfl rfl (OpJ.add rfl rfl rfl (i64ok ?_)) ?_
        · omega
        refine AList.c 7 rfl rfl rfl (OpJ.assign rfl rfl) ?_
        refine AList.nil ?_
        refine ⟨k + 1, ?_, ?_, ?_⟩
        · omega
        · omega
        refine To.sub (Sub.cons rfl (Sub.cons (by rw [hst, ← Int.add_assoc]; rfl) (by repeat (first | exact Sub.nil | refine Sub.cons rfl ?_))))
      · skip
        have hst : mnR c a b r (k + 1) = mnR c a b r k := by rw [mnR, if_neg (by rw [hc2]; decide), Int.add_zero]
        refine AWp.skip ?_
        refine AWp.region ?_
        refine AList.c 19 rfl rfl rfl (OpJ.move rfl rfl) ?_
        refine AList.c 20 rfl rfl rfl (OpJ.add rfl rfl rfl (i64ok ?_)) ?_
        · omega
        refine AList.c 7 rfl rfl rfl (OpJ.assign rfl rfl) ?_
        refine AList.nil ?_
        refine ⟨k + 1, ?_, ?_, ?_⟩
        · omega
        · omega
        refine To.sub (Sub.cons rfl (Sub.cons (by rw [hst]; rfl) (by repeat (first | exact Sub.nil | refine Sub.cons rfl ?_))))
    · skip
      obtain rfl : C = k := by have h := of_decide_eq_false hc1; omega
      have hfe := hmall r
      rw [hCt] at hfe
      have hst2 : manyF c a b (r + 1) = manyF c a b r + mnR c a b r C := by rw [manyF, hfe]
      refine AWp.exit ?_
      refine AWp.region ?_
      refine AList.c 13 rfl rfl rfl (OpJ.move rfl rfl) ?_
      refine AList.c 14 rfl rfl rfl (OpJ.add rfl rfl rfl (i64ok ?_)) ?_
      · omega
      refine AList.c 6 rfl rfl rfl (OpJ.assign rfl rfl) ?_
      refine AList.nil ?_
      refine ⟨r + 1, ?_, ?_, ?_⟩
      · omega
      · omega
      refine To.sub (Sub.cons rfl (Sub.cons (by rw [hst2]; rfl) (by repeat (first | exact Sub.nil | refine Sub.cons rfl ?_))))
  · skip
    obtain rfl : r = c.rows.length := by have h := of_decide_eq_false hc0; omega
    refine AWp.exit ?_
    refine AWp.seq ?_
    refine AWp.region ?_
    refine AList.c 32 rfl rfl rfl (OpJ.move rfl rfl) ?_
    refine AList.c 4 rfl rfl rfl (OpJ.assign rfl rfl) ?_
    refine AList.nil ?_
    refine AWp.ret ?_
    exact Fin.oneE rfl rfl rfl
def sL1 : List Lk := [⟨2, 1, 1⟩]
def sSu : Sup := ⟨6, 100, 120, 0, 0⟩
def sOd : Ord := ⟨1, 110, 15, 0⟩
def sB3 : List Bat := [⟨0, 0⟩, ⟨0, 0⟩, ⟨3, 0⟩]
theorem aw3 : (opE sCr sL1, cntS sCr sL1) = (0, (60, 150)) := by kernel_rfl
theorem aw5 : (fromN sB3 (backN sB3) 2, fromE sB3 2) = (7, 0) := by kernel_rfl
theorem awp3 : Pure Tryd.prog 9 [crV sCr, lksV sL1] (.tuple [.agg [.int .i64 60, .int .i64 150], .int .i64 0]) := by
  have h := count_ok sCr sL1 (by decide) (by decide)
  obtain ⟨e1, e2⟩ := Prod.mk.inj aw3
  rwa [e1, e2] at h
theorem awp4 : Pure Tryd.prog 15 [saleV sSu sOd] (.tuple [.int .i64 1, .int .i64 0]) :=
  Meets_ok sSu sOd 6 1 rfl rfl (by decide) (by decide) (by decide) (by decide) (by decide) (by decide)
theorem awp5 : Pure Tryd.prog 27 [batV sB3, .int .i64 2] (.tuple [.int .i64 ((7 : Nat) : Int), .int .i64 0]) := by
  have h := Back_ok sB3 2 (by decide)
  obtain ⟨e1, e2⟩ := Prod.mk.inj aw5
  rwa [e1, e2] at h
theorem awake06_ok  : Pure Tryd.prog 12 [] (.bool true) := by
  refine Pure.start (N := 56) Tryd.func12 rfl rfl (Nat.le_of_ble_eq_true rfl) ?_
  refine AWp.seq ?_
  refine AWp.region ?_
  refine AList.c 0 rfl rfl rfl (OpJ.assign rfl rfl) ?_
  refine AList.nil ?_
  refine AWp.seq ?_
  refine AWp.region ?_
  refine AList.c 8 rfl rfl rfl (OpJ.buildImm rfl slz22 (by decide) rfl rfl rfl) ?_
  refine AList.c 9 rfl rfl rfl (OpJ.buildR (v := .p (crV sCr)) rfl bd24 rfl rfl rfl) ?_
  refine AList.c 10 rfl rfl rfl (OpJ.build rfl bd33 rfl rfl) ?_
  refine AList.c 11 rfl rfl rfl (OpJ.buildImm rfl slz25 (by decide) rfl rfl rfl) ?_
  refine AList.c 12 rfl rfl rfl (OpJ.callP (awp3) rfl rfl rfl rfl rf9) ?_
  refine AList.c 7 rfl rfl rfl (OpJ.move rfl rfl) ?_
  refine AList.c 13 rfl rfl rfl (OpJ.extract rfl rfl rfl) ?_
  refine AList.c 14 rfl rfl rfl (OpJ.extract rfl rfl rfl) ?_
  refine AList.c 1 rfl rfl rfl (OpJ.allocOwn rfl zr40 rfl) ?_
  refine AList.c0 rfl rfl (OpJ.store rfl rfl rfl rfl rfl ty40 rfl rfl) ?_
  refine AList.c 2 rfl rfl rfl (OpJ.assign rfl rfl) ?_
  refine AList.nil ?_
  refine AWp.seq ?_
  refine AWp.region ?_
  refine AList.c 16 rfl rfl rfl (OpJ.build rfl bd40 rfl rfl) ?_
  refine AList.c 17 rfl rfl rfl (OpJ.buildR (v := .p (.agg sSu.cells)) rfl bd55 rfl rfl rfl) ?_
  refine AList.c 18 rfl rfl rfl (OpJ.buildImm rfl slz56 (by decide) rfl rfl rfl) ?_
  refine AList.c 19 rfl rfl rfl (OpJ.buildR (v := .p (.agg sOd.cells)) rfl bd58 rfl rfl rfl) ?_
  refine AList.c 20 rfl rfl rfl (OpJ.buildImm rfl slz59 (by decide) rfl rfl rfl) ?_
  refine AList.c 21 rfl rfl rfl (OpJ.buildR (v := .p (saleV sSu sOd)) rfl bd61 rfl rfl rfl) ?_
  refine AList.c 22 rfl rfl rfl (OpJ.callP (awp4) rfl rfl rfl rfl rf15) ?_
  refine AList.c 15 rfl rfl rfl (OpJ.move rfl rfl) ?_
  refine AList.c 23 rfl rfl rfl (OpJ.extract rfl rfl rfl) ?_
  refine AList.c 24 rfl rfl rfl (OpJ.extract rfl rfl rfl) ?_
  refine AList.c 3 rfl rfl rfl (OpJ.assign rfl rfl) ?_
  refine AList.c 4 rfl rfl rfl (OpJ.assign rfl rfl) ?_
  refine AList.nil ?_
  refine AWp.seq ?_
  refine AWp.region ?_
  refine AList.c 26 rfl rfl rfl (OpJ.build rfl bd31 rfl rfl) ?_
  refine AList.c 27 rfl rfl rfl (OpJ.build rfl bd31 rfl rfl) ?_
  refine AList.c 28 rfl rfl rfl (OpJ.build rfl bd31 rfl rfl) ?_
  refine AList.c 29 rfl rfl rfl (OpJ.buildImm rfl slz29 (by decide) rfl rfl rfl) ?_
  refine AList.c 30 rfl rfl rfl (OpJ.callP (awp5) rfl rfl rfl rfl rf27) ?_
  refine AList.c 25 rfl rfl rfl (OpJ.move rfl rfl) ?_
  refine AList.c 31 rfl rfl rfl (OpJ.extract rfl rfl rfl) ?_
  refine AList.c 32 rfl rfl rfl (OpJ.extract rfl rfl rfl) ?_
  refine AList.c 5 rfl rfl rfl (OpJ.assign rfl rfl) ?_
  refine AList.c 6 rfl rfl rfl (OpJ.assign rfl rfl) ?_
  refine AList.nil ?_
  refine AWp.seq ?_
  refine AWp.region ?_
  refine AList.c 33 rfl rfl rfl (OpJ.load rfl rfl ty40 rfl) ?_
  refine AList.c 34 rfl rfl rfl (OpJ.build rfl bd40 rfl rfl) ?_
  refine AList.c 35 rfl rfl rfl (OpJ.eqAgg (d := 8) rfl (.inl rfl) rfl rfl (by decide) eq40 ty40 rfl eg40 rfl) ?_
  refine AList.c 36 rfl rfl rfl (OpJ.move rfl rfl) ?_
  refine AList.g 37 36 rfl rfl rfl rfl rfl rfl rfl [(2, _)] (fun h => And.intro (.inl rfl) (trivial)) (fun h => (OpJ.move rfl rfl)) ?_
  refine AList.g 38 36 rfl rfl rfl rfl rfl rfl rfl [(37, _)] (fun h => And.intro (.inr ⟨_, rfl, h⟩) (trivial)) (fun h => (OpJ.eql rfl rfl rfl)) ?_
  refine AList.c 39 rfl rfl rfl (OpJ.and_ rfl rfl rfl ?_) ?_
  · first | (intro h; rw [h]; rfl) | (intro h; simp_all)
  refine AList.c 40 rfl rfl rfl (OpJ.move rfl rfl) ?_
  refine AList.g 41 40 rfl rfl rfl rfl rfl rfl rfl [(3, _)] (fun h => And.intro (.inl rfl) (trivial)) (fun h => (OpJ.move rfl rfl)) ?_
  refine AList.g 42 40 rfl rfl rfl rfl rfl rfl rfl [(41, _)] (fun h => And.intro (.inr ⟨_, rfl, h⟩) (trivial)) (fun h => (OpJ.eql rfl rfl rfl)) ?_
  refine AList.c 43 rfl rfl rfl (OpJ.and_ rfl rfl rfl ?_) ?_
  · first | (intro h; rw [h]; rfl) | (intro h; simp_all)
  refine AList.c 44 rfl rfl rfl (OpJ.move rfl rfl) ?_
  refine AList.g 45 44 rfl rfl rfl rfl rfl rfl rfl [(4, _)] (fun h => And.intro (.inl rfl) (trivial)) (fun h => (OpJ.move rfl rfl)) ?_
  refine AList.g 46 44 rfl rfl rfl rfl rfl rfl rfl [(45, _)] (fun h => And.intro (.inr ⟨_, rfl, h⟩) (trivial)) (fun h => (OpJ.eql rfl rfl rfl)) ?_
  refine AList.c 47 rfl rfl rfl (OpJ.and_ rfl rfl rfl ?_) ?_
  · first | (intro h; rw [h]; rfl) | (intro h; simp_all)
  refine AList.c 48 rfl rfl rfl (OpJ.move rfl rfl) ?_
  refine AList.g 49 48 rfl rfl rfl rfl rfl rfl rfl [(5, _)] (fun h => And.intro (.inl rfl) (trivial)) (fun h => (OpJ.move rfl rfl)) ?_
  refine AList.g 50 48 rfl rfl rfl rfl rfl rfl rfl [(49, _)] (fun h => And.intro (.inr ⟨_, rfl, h⟩) (trivial)) (fun h => (OpJ.eql rfl rfl rfl)) ?_
  refine AList.c 51 rfl rfl rfl (OpJ.and_ rfl rfl rfl ?_) ?_
  · first | (intro h; rw [h]; rfl) | (intro h; simp_all)
  refine AList.c 52 rfl rfl rfl (OpJ.move rfl rfl) ?_
  refine AList.g 53 52 rfl rfl rfl rfl rfl rfl rfl [(6, _)] (fun h => And.intro (.inl rfl) (trivial)) (fun h => (OpJ.move rfl rfl)) ?_
  refine AList.g 54 52 rfl rfl rfl rfl rfl rfl rfl [(53, _)] (fun h => And.intro (.inr ⟨_, rfl, h⟩) (trivial)) (fun h => (OpJ.eql rfl rfl rfl)) ?_
  refine AList.c 55 rfl rfl rfl (OpJ.and_ rfl rfl rfl ?_) ?_
  · first | (intro h; rw [h]; rfl) | (intro h; simp_all)
  refine AList.c 0 rfl rfl rfl (OpJ.assign rfl rfl) ?_
  refine AList.nil ?_
  refine AWp.ret ?_
  exact Fin.one rfl (rfl)
end Go.Proofs.YtofenmailjdehaaDoor
