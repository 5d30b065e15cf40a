/-
  Searches; what is valid.
-/
import Derived.Test.YtmcejcidbekpkaaSkFacts
import Derived.Test.YtmcejcidbekpkaaSkD
import Derived.Test.YtmcejcidbekpkaaSk1
set_option linter.unusedVariables false
set_option maxRecDepth 100000
set_option maxHeartbeats 4000000
set_option linter.unusedSimpArgs false
namespace Go.Proofs.Ytmcejcidbekpkaa
open Go.AF
theorem indexFuncSack_ok (xs : List Sk) (f : PV) (p : Sk → Bool) (hx : xs.length ≤ bigN) (hf : ∀ x ∈ xs, FPure Try.prog f [.agg x.cells] (.bool (p x))) : Pure Try.prog 74 [.is (xs.flatMap Sk.cells) xs.length, f] (.int .i64 (idxF p xs)) := by
  unfold bigN at hx
  refine Pure.start (N := 19) Try.func74 rfl rfl (Nat.le_of_ble_eq_true rfl) ?_
  refine AWp.seq ?_
  refine AWp.region ?_
  refine AList.c 4 rfl rfl rfl (OpJ.assign rfl rfl) ?_
  refine AList.nil ?_
  refine AWp.seq ?_
  refine AWp.seq ?_
  refine AWp.region ?_
  refine AList.c 6 rfl rfl rfl (OpJ.move rfl rfl) ?_
  refine AList.c 7 rfl rfl rfl (OpJ.lenSlice rfl rfl sl22 rfl) ?_
  refine AList.c 8 rfl rfl rfl (OpJ.move rfl rfl) ?_
  refine AList.nil ?_
  refine AWp.block ?_
  refine AWp.loopK [4, 5, 8, 9, 10, 11, 12, 13, 14, 15, 16, 17, 18] (fun g => [(8, .p (.int .i64 ((g : Nat) : Int)))]) (fun g => g ≤ xs.length ∧ ∀ j (hj : j < g) (h : g ≤ xs.length), p (xs[j]'(by omega)) = false) (fun g => xs.length - g) 0 ⟨Nat.zero_le _, fun j hj => absurd hj (by omega)⟩ (Sub.cons rfl (Sub.nil)) (fun i hg => ?_)
  obtain ⟨hg1, hg2⟩ := hg
  refine AWp.seq ?_
  refine AWp.region ?_
  refine AList.c 9 rfl rfl rfl (OpJ.lss rfl rfl rfl) ?_
  refine AList.nil ?_
  refine AWp.seq ?_
  refine AWp.cond _ rfl (fun hc0 => ?_) (fun hc0 => ?_)
  · skip
    refine AWp.skip ?_
    refine AWp.seq ?_
    refine AWp.block ?_
    refine AWp.seq ?_
    refine AWp.region ?_
    refine AList.c 10 rfl rfl rfl (OpJ.move rfl rfl) ?_
    refine AList.c 5 rfl rfl rfl (OpJ.assign rfl rfl) ?_
    refine AList.nil ?_
    refine AWp.seq ?_
    refine AWp.region ?_
    refine AList.c 11 rfl rfl rfl (OpJ.move rfl rfl) ?_
    refine AList.c 12 rfl rfl rfl (OpJ.move rfl rfl) ?_
    refine AList.c 13 rfl rfl rfl (OpJ.move rfl rfl) ?_
    refine AList.c 14 rfl rfl rfl (OpJ.indexEl rfl rfl rfl sl22 el22 rfl (fun _ => rfl) (by decide) ?_) ?_
    · simp at hc0; omega
    refine AList.c 15 rfl rfl rfl (OpJ.load rfl rfl ty57 rfl) ?_
    refine AList.c 16 rfl rfl rfl (OpJ.callF (hf _ (List.getElem_mem _)) rfl rfl rfl) ?_
    refine AList.nil ?_
    refine AWp.cond _ rfl (fun hc1 => ?_) (fun hc1 => ?_)
    · skip
      refine AWp.seq ?_
      refine AWp.region ?_
      refine AList.c 17 rfl rfl rfl (OpJ.move rfl rfl) ?_
      refine AList.c 4 rfl rfl rfl (OpJ.assign rfl rfl) ?_
      refine AList.nil ?_
      refine AWp.ret ?_
      refine Fin.oneE rfl rfl ?_
      rw [idxF_at p xs i (by simp at hc0; omega) (fun j hj => hg2 j hj hg1) hc1]
    · skip
      refine AWp.skip ?_
      refine AWp.region ?_
      refine AList.c 18 rfl rfl rfl (OpJ.add rfl rfl rfl (i64ok ?_)) ?_
      · simp at hc0; omega
      refine AList.c 8 rfl rfl rfl (OpJ.move rfl rfl) ?_
      refine AList.nil ?_
      refine ⟨i + 1, ?_, ?_, ?_⟩
      · refine ⟨by simp at hc0; omega, fun j hj h => ?_⟩
        rcases Nat.lt_succ_iff_lt_or_eq.1 hj with h1 | rfl
        · exact hg2 j h1 hg1
        · exact hc1
      · simp at hc0; omega
      exact To.done [] rfl (by repeat (first | exact Sub.nil | refine Sub.cons rfl ?_)) rfl
  · skip
    refine AWp.exit ?_
    refine AWp.seq ?_
    refine AWp.region ?_
    refine AList.c 4 rfl rfl rfl (OpJ.assign rfl rfl) ?_
    refine AList.nil ?_
    refine AWp.ret ?_
    refine Fin.oneE rfl rfl ?_
    rw [idxF_none p xs (fun j hj => hg2 j (by simp at hc0; omega) hg1)]
theorem indexFuncTake_ok (xs : List Tk) (f : PV) (p : Tk → Bool) (hx : xs.length ≤ bigN) (hf : ∀ x ∈ xs, FPure Try.prog f [.agg x.cells] (.bool (p x))) : Pure Try.prog 75 [.is (xs.flatMap Tk.cells) xs.length, f] (.int .i64 (idxF p xs)) := by
  unfold bigN at hx
  refine Pure.start (N := 19) Try.func75 rfl rfl (Nat.le_of_ble_eq_true rfl) ?_
  refine AWp.seq ?_
  refine AWp.region ?_
  refine AList.c 4 rfl rfl rfl (OpJ.assign rfl rfl) ?_
  refine AList.nil ?_
  refine AWp.seq ?_
  refine AWp.seq ?_
  refine AWp.region ?_
  refine AList.c 6 rfl rfl rfl (OpJ.move rfl rfl) ?_
  refine AList.c 7 rfl rfl rfl (OpJ.lenSlice rfl rfl sl23 rfl) ?_
  refine AList.c 8 rfl rfl rfl (OpJ.move rfl rfl) ?_
  refine AList.nil ?_
  refine AWp.block ?_
  refine AWp.loopK [4, 5, 8, 9, 10, 11, 12, 13, 14, 15, 16, 17, 18] (fun g => [(8, .p (.int .i64 ((g : Nat) : Int)))]) (fun g => g ≤ xs.length ∧ ∀ j (hj : j < g) (h : g ≤ xs.length), p (xs[j]'(by omega)) = false) (fun g => xs.length - g) 0 ⟨Nat.zero_le _, fun j hj => absurd hj (by omega)⟩ (Sub.cons rfl (Sub.nil)) (fun i hg => ?_)
  obtain ⟨hg1, hg2⟩ := hg
  refine AWp.seq ?_
  refine AWp.region ?_
  refine AList.c 9 rfl rfl rfl (OpJ.lss rfl rfl rfl) ?_
  refine AList.nil ?_
  refine AWp.seq ?_
  refine AWp.cond _ rfl (fun hc0 => ?_) (fun hc0 => ?_)
  · skip
    refine AWp.skip ?_
    refine AWp.seq ?_
    refine AWp.block ?_
    refine AWp.seq ?_
    refine AWp.region ?_
    refine AList.c 10 rfl rfl rfl (OpJ.move rfl rfl) ?_
    refine AList.c 5 rfl rfl rfl (OpJ.assign rfl rfl) ?_
    refine AList.nil ?_
    refine AWp.seq ?_
    refine AWp.region ?_
    refine AList.c 11 rfl rfl rfl (OpJ.move rfl rfl) ?_
    refine AList.c 12 rfl rfl rfl (OpJ.move rfl rfl) ?_
    refine AList.c 13 rfl rfl rfl (OpJ.move rfl rfl) ?_
    refine AList.c 14 rfl rfl rfl (OpJ.indexEl rfl rfl rfl sl23 el23 rfl (fun _ => rfl) (by decide) ?_) ?_
    · simp at hc0; omega
    refine AList.c 15 rfl rfl rfl (OpJ.load rfl rfl ty51 rfl) ?_
    refine AList.c 16 rfl rfl rfl (OpJ.callF (hf _ (List.getElem_mem _)) rfl rfl rfl) ?_
    refine AList.nil ?_
    refine AWp.cond _ rfl (fun hc1 => ?_) (fun hc1 => ?_)
    · skip
      refine AWp.seq ?_
      refine AWp.region ?_
      refine AList.c 17 rfl rfl rfl (OpJ.move rfl rfl) ?_
      refine AList.c 4 rfl rfl rfl (OpJ.assign rfl rfl) ?_
      refine AList.nil ?_
      refine AWp.ret ?_
      refine Fin.oneE rfl rfl ?_
      rw [idxF_at p xs i (by simp at hc0; omega) (fun j hj => hg2 j hj hg1) hc1]
    · skip
      refine AWp.skip ?_
      refine AWp.region ?_
      refine AList.c 18 rfl rfl rfl (OpJ.add rfl rfl rfl (i64ok ?_)) ?_
      · simp at hc0; omega
      refine AList.c 8 rfl rfl rfl (OpJ.move rfl rfl) ?_
      refine AList.nil ?_
      refine ⟨i + 1, ?_, ?_, ?_⟩
      · refine ⟨by simp at hc0; omega, fun j hj h => ?_⟩
        rcases Nat.lt_succ_iff_lt_or_eq.1 hj with h1 | rfl
        · exact hg2 j h1 hg1
        · exact hc1
      · simp at hc0; omega
      exact To.done [] rfl (by repeat (first | exact Sub.nil | refine Sub.cons rfl ?_)) rfl
  · skip
    refine AWp.exit ?_
    refine AWp.seq ?_
    refine AWp.region ?_
    refine AList.c 4 rfl rfl rfl (OpJ.assign rfl rfl) ?_
    refine AList.nil ?_
    refine AWp.ret ?_
    refine Fin.oneE rfl rfl ?_
    rw [idxF_none p xs (fun j hj => hg2 j (by simp at hc0; omega) hg1)]
theorem containsFuncSack_ok (xs : List Sk) (f : PV) (p : Sk → Bool) (hx : xs.length ≤ bigN) (hf : ∀ x ∈ xs, FPure Try.prog f [.agg x.cells] (.bool (p x))) : Pure Try.prog 65 [.is (xs.flatMap Sk.cells) xs.length, f] (.bool (xs.any p)) := by
  refine Pure.start (N := 9) Try.func65 rfl rfl (Nat.le_of_ble_eq_true rfl) ?_
  refine AWp.seq ?_
  refine AWp.region ?_
  refine AList.c 4 rfl rfl rfl (OpJ.assign rfl rfl) ?_
  refine AList.nil ?_
  refine AWp.seq ?_
  refine AWp.region ?_
  refine AList.c 5 rfl rfl rfl (OpJ.move rfl rfl) ?_
  refine AList.c 6 rfl rfl rfl (OpJ.move rfl rfl) ?_
  refine AList.c 7 rfl rfl rfl (OpJ.callP (indexFuncSack_ok _ _ p ?_ ?_) rfl rfl rfl rfl rf74) ?_
  · exact hx
  · exact hf
  refine AList.c 8 rfl rfl rfl (OpJ.geq rfl rfl rfl) ?_
  refine AList.c 4 rfl rfl rfl (OpJ.assign rfl rfl) ?_
  refine AList.nil ?_
  refine AWp.ret ?_
  refine Fin.oneE rfl rfl ?_
  rw [idxF_any]
theorem containsFuncTake_ok (xs : List Tk) (f : PV) (p : Tk → Bool) (hx : xs.length ≤ bigN) (hf : ∀ x ∈ xs, FPure Try.prog f [.agg x.cells] (.bool (p x))) : Pure Try.prog 67 [.is (xs.flatMap Tk.cells) xs.length, f] (.bool (xs.any p)) := by
  refine Pure.start (N := 9) Try.func67 rfl rfl (Nat.le_of_ble_eq_true rfl) ?_
  refine AWp.seq ?_
  refine AWp.region ?_
  refine AList.c 4 rfl rfl rfl (OpJ.assign rfl rfl) ?_
  refine AList.nil ?_
  refine AWp.seq ?_
  refine AWp.region ?_
  refine AList.c 5 rfl rfl rfl (OpJ.move rfl rfl) ?_
  refine AList.c 6 rfl rfl rfl (OpJ.move rfl rfl) ?_
  refine AList.c 7 rfl rfl rfl (OpJ.callP (indexFuncTake_ok _ _ p ?_ ?_) rfl rfl rfl rfl rf75) ?_
  · exact hx
  · exact hf
  refine AList.c 8 rfl rfl rfl (OpJ.geq rfl rfl rfl) ?_
  refine AList.c 4 rfl rfl rfl (OpJ.assign rfl rfl) ?_
  refine AList.nil ?_
  refine AWp.ret ?_
  refine Fin.oneE rfl rfl ?_
  rw [idxF_any]
theorem areSacks1_ok (s : Sk) : Pure Try.prog 64 [.agg s.cells] (.bool s.bad) := by
  refine Pure.start (N := 19) Try.func64 rfl rfl (Nat.le_of_ble_eq_true rfl) ?_
  refine AWp.seq ?_
  refine AWp.region ?_
  refine AList.c 1 rfl rfl rfl (OpJ.boxImm rfl rfl rfl) ?_
  refine AList.c 2 rfl rfl rfl (OpJ.assign rfl rfl) ?_
  refine AList.nil ?_
  refine AWp.seq ?_
  refine AWp.region ?_
  refine AList.c 3 rfl rfl rfl (OpJ.fieldAddr rfl rfl fd57_0 rfl) ?_
  refine AList.c 4 rfl rfl rfl (OpJ.load rfl rfl ty25 rfl) ?_
  refine AList.c 5 rfl rfl rfl (OpJ.callP (isSpan_ok _ _ _ _) rfl rfl rfl rfl rf47) ?_
  refine AList.c 6 rfl rfl rfl (OpJ.not_ rfl rfl) ?_
  refine AList.c 7 rfl rfl rfl (OpJ.move rfl rfl) ?_
  refine AList.g 8 7 rfl rfl rfl rfl rfl rfl rfl [(1, _)] (fun h => And.intro (.inl rfl) (trivial)) (fun h => (OpJ.fieldAddr rfl rfl fd57_1 rfl)) ?_
  refine AList.g 9 7 rfl rfl rfl rfl rfl rfl rfl [(8, _)] (fun h => And.intro (.inr ⟨_, rfl, h⟩) (trivial)) (fun h => (OpJ.load rfl rfl ty25 rfl)) ?_
  refine AList.g 10 7 rfl rfl rfl rfl rfl rfl rfl [(9, _)] (fun h => And.intro (.inr ⟨_, rfl, h⟩) (trivial)) (fun h => (OpJ.callP (isSpan_ok _ _ _ _) rfl rfl rfl rfl rf47)) ?_
  refine AList.g 11 7 rfl rfl rfl rfl rfl rfl rfl [(10, _)] (fun h => And.intro (.inr ⟨_, rfl, h⟩) (trivial)) (fun h => (OpJ.not_ rfl rfl)) ?_
  refine AList.c 12 rfl rfl rfl (OpJ.or_ rfl rfl rfl ?_) ?_
  · first | (intro h; rw [h]; rfl) | (intro h; simp_all)
  refine AList.c 13 rfl rfl rfl (OpJ.move rfl rfl) ?_
  refine AList.g 14 13 rfl rfl rfl rfl rfl rfl rfl [(1, _)] (fun h => And.intro (.inl rfl) (trivial)) (fun h => (OpJ.fieldAddr rfl rfl fd57_2 rfl)) ?_
  refine AList.g 15 13 rfl rfl rfl rfl rfl rfl rfl [(14, _)] (fun h => And.intro (.inr ⟨_, rfl, h⟩) (trivial)) (fun h => (OpJ.load rfl rfl ty25 rfl)) ?_
  refine AList.g 16 13 rfl rfl rfl rfl rfl rfl rfl [(15, _)] (fun h => And.intro (.inr ⟨_, rfl, h⟩) (trivial)) (fun h => (OpJ.callP (isSpan_ok _ _ _ _) rfl rfl rfl rfl rf47)) ?_
  refine AList.g 17 13 rfl rfl rfl rfl rfl rfl rfl [(16, _)] (fun h => And.intro (.inr ⟨_, rfl, h⟩) (trivial)) (fun h => (OpJ.not_ rfl rfl)) ?_
  refine AList.c 18 rfl rfl rfl (OpJ.or_ rfl rfl rfl ?_) ?_
  · first | (intro h; rw [h]; rfl) | (intro h; simp_all)
  refine AList.c 2 rfl rfl rfl (OpJ.assign rfl rfl) ?_
  refine AList.nil ?_
  refine AWp.ret ?_
  exact Fin.one rfl (rfl)
theorem isBatch1_ok (l : List Sk) (t : Tk) (hx : l.length ≤ bigN) : Pure Try.prog 66 [.agg t.cells, .ip [sacksV l] 0] (.bool (t.bad l.length)) := by
  refine Pure.start (N := 17) Try.func66 rfl rfl (Nat.le_of_ble_eq_true rfl) ?_
  refine AWp.seq ?_
  refine AWp.region ?_
  refine AList.c 2 rfl rfl rfl (OpJ.boxImm rfl rfl rfl) ?_
  refine AList.c 3 rfl rfl rfl (OpJ.assign rfl rfl) ?_
  refine AList.nil ?_
  refine AWp.seq ?_
  refine AWp.region ?_
  refine AList.c 4 rfl rfl rfl (OpJ.fieldAddr rfl rfl fd51_0 rfl) ?_
  refine AList.c 5 rfl rfl rfl (OpJ.load rfl rfl ty3 rfl) ?_
  refine AList.c 6 rfl rfl rfl (OpJ.load rfl rfl ty22 rfl) ?_
  refine AList.c 7 rfl rfl rfl (OpJ.lenSlice rfl rfl sl22 rfl) ?_
  refine AList.c 8 rfl rfl rfl (OpJ.sub_ rfl rfl rfl (i64ok ?_)) ?_
  · unfold bigN at *; omega
  refine AList.c 9 rfl rfl rfl (OpJ.callP (within_ok _ _ _) rfl rfl rfl rfl rf54) ?_
  refine AList.c 10 rfl rfl rfl (OpJ.not_ rfl rfl) ?_
  refine AList.c 11 rfl rfl rfl (OpJ.move rfl rfl) ?_
  refine AList.g 12 11 rfl rfl rfl rfl rfl rfl rfl [(2, _)] (fun h => And.intro (.inl rfl) (trivial)) (fun h => (OpJ.fieldAddr rfl rfl fd51_1 rfl)) ?_
  refine AList.g 13 11 rfl rfl rfl rfl rfl rfl rfl [(12, _)] (fun h => And.intro (.inr ⟨_, rfl, h⟩) (trivial)) (fun h => (OpJ.load rfl rfl ty25 rfl)) ?_
  refine AList.g 14 11 rfl rfl rfl rfl rfl rfl rfl [(13, _)] (fun h => And.intro (.inr ⟨_, rfl, h⟩) (trivial)) (fun h => (OpJ.callP (isSpan_ok _ _ _ _) rfl rfl rfl rfl rf47)) ?_
  refine AList.g 15 11 rfl rfl rfl rfl rfl rfl rfl [(14, _)] (fun h => And.intro (.inr ⟨_, rfl, h⟩) (trivial)) (fun h => (OpJ.not_ rfl rfl)) ?_
  refine AList.c 16 rfl rfl rfl (OpJ.or_ rfl rfl rfl ?_) ?_
  · first | (intro h; rw [h]; rfl) | (intro h; simp_all)
  refine AList.c 3 rfl rfl rfl (OpJ.assign rfl rfl) ?_
  refine AList.nil ?_
  refine AWp.ret ?_
  exact Fin.one rfl (rfl)
theorem areSacks_ok (l : List Sk) (hx : l.length ≤ bigN) : Pure Try.prog 30 [sacksV l] (.bool (areSacksB l)) := by
  refine Pure.start (N := 13) Try.func30 rfl rfl (Nat.le_of_ble_eq_true rfl) ?_
  refine AWp.seq ?_
  refine AWp.region ?_
  refine AList.c 2 rfl rfl rfl (OpJ.assign rfl rfl) ?_
  refine AList.nil ?_
  refine AWp.seq ?_
  refine AWp.region ?_
  refine AList.c 3 rfl rfl rfl (OpJ.assign rfl rfl) ?_
  refine AList.nil ?_
  refine AWp.seq ?_
  refine AWp.region ?_
  refine AList.c 4 rfl rfl rfl (OpJ.move rfl rfl) ?_
  refine AList.c 5 rfl rfl rfl (OpJ.lenSlice rfl rfl sl22 rfl) ?_
  refine AList.c 6 rfl rfl rfl (OpJ.leq rfl rfl rfl) ?_
  refine AList.c 7 rfl rfl rfl (OpJ.move rfl rfl) ?_
  refine AList.g 8 7 rfl rfl rfl rfl rfl rfl rfl [(0, _)] (fun h => And.intro (.inl rfl) (trivial)) (fun h => (OpJ.move rfl rfl)) ?_
  refine AList.g 9 7 rfl rfl rfl rfl rfl rfl rfl [(3, _)] (fun h => And.intro (.inl rfl) (trivial)) (fun h => (OpJ.move rfl rfl)) ?_
  refine AList.g 10 7 rfl rfl rfl rfl rfl rfl rfl [(8, _), (9, _)] (fun h => And.intro (.inr ⟨_, rfl, h⟩) (And.intro (.inr ⟨_, rfl, h⟩) (trivial))) (fun h => (OpJ.callP (containsFuncSack_ok l _ Sk.bad ?_ ?_) rfl rfl rfl rfl rf65)) ?_
  · exact hx
  · exact fun x _ => ⟨64, [.agg x.cells], rfl, rf64, areSacks1_ok x⟩
  refine AList.g 11 7 rfl rfl rfl rfl rfl rfl rfl [(10, _)] (fun h => And.intro (.inr ⟨_, rfl, h⟩) (trivial)) (fun h => (OpJ.not_ rfl rfl)) ?_
  refine AList.c 12 rfl rfl rfl (OpJ.and_ rfl rfl rfl ?_) ?_
  · first | (intro h; rw [h]; rfl) | (intro h; simp_all)
  refine AList.c 2 rfl rfl rfl (OpJ.assign rfl rfl) ?_
  refine AList.nil ?_
  refine AWp.ret ?_
  exact Fin.one rfl (rfl)
theorem isBatch_ok (l : List Sk) (b : List Tk) (hx : l.length ≤ bigN) (hb : b.length ≤ bigN) : Pure Try.prog 31 [sacksV l, takesV b] (.bool (isBatchB l.length b)) := by
  refine Pure.start (N := 16) Try.func31 rfl rfl (Nat.le_of_ble_eq_true rfl) ?_
  refine AWp.seq ?_
  refine AWp.region ?_
  refine AList.c 2 rfl rfl rfl (OpJ.boxImm rfl rfl rfl) ?_
  refine AList.c 4 rfl rfl rfl (OpJ.assign rfl rfl) ?_
  refine AList.nil ?_
  refine AWp.seq ?_
  refine AWp.region ?_
  refine AList.c 6 rfl rfl rfl (OpJ.makeFunc rfl rfl rfl) ?_
  refine AList.c 5 rfl rfl rfl (OpJ.assign rfl rfl) ?_
  refine AList.nil ?_
  refine AWp.seq ?_
  refine AWp.region ?_
  refine AList.c 7 rfl rfl rfl (OpJ.move rfl rfl) ?_
  refine AList.c 8 rfl rfl rfl (OpJ.lenSlice rfl rfl sl23 rfl) ?_
  refine AList.c 9 rfl rfl rfl (OpJ.callP (within_ok _ _ _) rfl rfl rfl rfl rf54) ?_
  refine AList.c 10 rfl rfl rfl (OpJ.move rfl rfl) ?_
  refine AList.g 11 10 rfl rfl rfl rfl rfl rfl rfl [(1, _)] (fun h => And.intro (.inl rfl) (trivial)) (fun h => (OpJ.move rfl rfl)) ?_
  refine AList.g 12 10 rfl rfl rfl rfl rfl rfl rfl [(5, _)] (fun h => And.intro (.inl rfl) (trivial)) (fun h => (OpJ.move rfl rfl)) ?_
  refine AList.g 13 10 rfl rfl rfl rfl rfl rfl rfl [(11, _), (12, _)] (fun h => And.intro (.inr ⟨_, rfl, h⟩) (And.intro (.inr ⟨_, rfl, h⟩) (trivial))) (fun h => (OpJ.callP (containsFuncTake_ok b _ (Tk.bad l.length) ?_ ?_) rfl rfl rfl rfl rf67)) ?_
  · exact hb
  · exact fun x _ => ⟨66, [.agg x.cells, .ip [sacksV l] 0], rfl, rf66, isBatch1_ok l x hx⟩
  refine AList.g 14 10 rfl rfl rfl rfl rfl rfl rfl [(13, _)] (fun h => And.intro (.inr ⟨_, rfl, h⟩) (trivial)) (fun h => (OpJ.not_ rfl rfl)) ?_
  refine AList.c 15 rfl rfl rfl (OpJ.and_ rfl rfl rfl ?_) ?_
  · first | (intro h; rw [h]; rfl) | (intro h; simp_all)
  refine AList.c 4 rfl rfl rfl (OpJ.assign rfl rfl) ?_
  refine AList.nil ?_
  refine AWp.ret ?_
  exact Fin.one rfl (rfl)
theorem rSacks_ok (l : List Sk) (hx : l.length ≤ bigN) : Pure Try.prog 19 [sacksV l] (.bool (areSacksB l)) := by
  refine Pure.start (N := 38) Try.func19 rfl rfl (Nat.le_of_ble_eq_true rfl) ?_
  refine AWp.seq ?_
  refine AWp.region ?_
  refine AList.c 2 rfl rfl rfl (OpJ.assign rfl rfl) ?_
  refine AList.nil ?_
  refine AWp.seq ?_
  refine AWp.seq ?_
  refine AWp.region ?_
  refine AList.c 3 rfl rfl rfl (OpJ.assign rfl rfl) ?_
  refine AList.nil ?_
  refine AWp.block ?_
  refine AWp.loopK [2, 3, 4, 5, 6, 7, 8, 9, 10, 11, 12, 13, 14, 15, 16, 17, 18, 19, 20, 21, 22, 23, 24, 25, 26, 27, 28, 29, 30, 31, 32, 33, 34] (fun g => [(3, .p (.int .i64 ((g : Nat) : Int)))]) (fun g => g ≤ l.length ∧ ∀ j (hj : j < g) (h : g ≤ l.length), Sk.bad (l[j]'(by omega)) = false) (fun g => l.length - g) 0 ⟨Nat.zero_le _, fun j hj => absurd hj (by omega)⟩ (Sub.cons rfl (Sub.nil)) (fun i hg => ?_)
  obtain ⟨hg1, hg2⟩ := hg
  refine AWp.seq ?_
  refine AWp.seq ?_
  refine AWp.region ?_
  refine AList.c 4 rfl rfl rfl (OpJ.move rfl rfl) ?_
  refine AList.c 5 rfl rfl rfl (OpJ.move rfl rfl) ?_
  refine AList.c 6 rfl rfl rfl (OpJ.lenSlice rfl rfl sl22 rfl) ?_
  refine AList.c 7 rfl rfl rfl (OpJ.lss rfl rfl rfl) ?_
  refine AList.nil ?_
  refine AWp.cond _ rfl (fun hc0 => ?_) (fun hc0 => ?_)
  · skip
    have hk0 : i < l.length := by simp at hc0; omega
    refine AWp.skip ?_
    refine AWp.seq ?_
    refine AWp.block ?_
    refine AWp.seq ?_
    refine AWp.region ?_
    refine AList.c 10 rfl rfl rfl (OpJ.move rfl rfl) ?_
    refine AList.c 11 rfl rfl rfl (OpJ.move rfl rfl) ?_
    refine AList.c 12 rfl rfl rfl (OpJ.indexEl rfl rfl rfl sl22 el22 rfl (fun _ => rfl) (by decide) hk0) ?_
    refine AList.c 13 rfl rfl rfl (OpJ.fieldAddr rfl rfl fd57_0 rfl) ?_
    refine AList.c 14 rfl rfl rfl (OpJ.load rfl rfl ty25 rfl) ?_
    refine AList.c 15 rfl rfl rfl (OpJ.callP (rspan_ok _ _ _ _) rfl rfl rfl rfl rf49) ?_
    refine AList.c 16 rfl rfl rfl (OpJ.not_ rfl rfl) ?_
    refine AList.c 17 rfl rfl rfl (OpJ.move rfl rfl) ?_
    refine AList.g 18 17 rfl rfl rfl rfl rfl rfl rfl [(0, _)] (fun h => And.intro (.inl rfl) (trivial)) (fun h => (OpJ.move rfl rfl)) ?_
    refine AList.g 19 17 rfl rfl rfl rfl rfl rfl rfl [(3, _)] (fun h => And.intro (.inl rfl) (trivial)) (fun h => (OpJ.move rfl rfl)) ?_
    refine AList.g 20 17 rfl rfl rfl rfl rfl rfl rfl [(18, _), (19, _)] (fun h => And.intro (.inr ⟨_, rfl, h⟩) (And.intro (.inr ⟨_, rfl, h⟩) (trivial))) (fun h => (OpJ.indexEl rfl rfl rfl sl22 el22 rfl (fun _ => rfl) (by decide) hk0)) ?_
    refine AList.g 21 17 rfl rfl rfl rfl rfl rfl rfl [(20, _)] (fun h => And.intro (.inr ⟨_, rfl, h⟩) (trivial)) (fun h => (OpJ.fieldAddr rfl rfl fd57_1 rfl)) ?_
    refine AList.g 22 17 rfl rfl rfl rfl rfl rfl rfl [(21, _)] (fun h => And.intro (.inr ⟨_, rfl, h⟩) (trivial)) (fun h => (OpJ.load rfl rfl ty25 rfl)) ?_
    refine AList.g 23 17 rfl rfl rfl rfl rfl rfl rfl [(22, _)] (fun h => And.intro (.inr ⟨_, rfl, h⟩) (trivial)) (fun h => (OpJ.callP (rspan_ok _ _ _ _) rfl rfl rfl rfl rf49)) ?_
    refine AList.g 24 17 rfl rfl rfl rfl rfl rfl rfl [(23, _)] (fun h => And.intro (.inr ⟨_, rfl, h⟩) (trivial)) (fun h => (OpJ.not_ rfl rfl)) ?_
    refine AList.c 25 rfl rfl rfl (OpJ.or_ rfl rfl rfl ?_) ?_
    · first | (intro h; rw [h]; rfl) | (intro h; simp_all)
    refine AList.c 26 rfl rfl rfl (OpJ.move rfl rfl) ?_
    refine AList.g 27 26 rfl rfl rfl rfl rfl rfl rfl [(0, _)] (fun h => And.intro (.inl rfl) (trivial)) (fun h => (OpJ.move rfl rfl)) ?_
    refine AList.g 28 26 rfl rfl rfl rfl rfl rfl rfl [(3, _)] (fun h => And.intro (.inl rfl) (trivial)) (fun h => (OpJ.move rfl rfl)) ?_
    refine AList.g 29 26 rfl rfl rfl rfl rfl rfl rfl [(27, _), (28, _)] (fun h => And.intro (.inr ⟨_, rfl, h⟩) (And.intro (.inr ⟨_, rfl, h⟩) (trivial))) (fun h => (OpJ.indexEl rfl rfl rfl sl22 el22 rfl (fun _ => rfl) (by decide) hk0)) ?_
    refine AList.g 30 26 rfl rfl rfl rfl rfl rfl rfl [(29, _)] (fun h => And.intro (.inr ⟨_, rfl, h⟩) (trivial)) (fun h => (OpJ.fieldAddr rfl rfl fd57_2 rfl)) ?_
    refine AList.g 31 26 rfl rfl rfl rfl rfl rfl rfl [(30, _)] (fun h => And.intro (.inr ⟨_, rfl, h⟩) (trivial)) (fun h => (OpJ.load rfl rfl ty25 rfl)) ?_
    refine AList.g 32 26 rfl rfl rfl rfl rfl rfl rfl [(31, _)] (fun h => And.intro (.inr ⟨_, rfl, h⟩) (trivial)) (fun h => (OpJ.callP (rspan_ok _ _ _ _) rfl rfl rfl rfl rf49)) ?_
    refine AList.g 33 26 rfl rfl rfl rfl rfl rfl rfl [(32, _)] (fun h => And.intro (.inr ⟨_, rfl, h⟩) (trivial)) (fun h => (OpJ.not_ rfl rfl)) ?_
    refine AList.c 34 rfl rfl rfl (OpJ.or_ rfl rfl rfl ?_) ?_
    · first | (intro h; rw [h]; rfl) | (intro h; simp_all)
    refine AList.nil ?_
    refine AWp.cond _ rfl (fun hc1 => ?_) (fun hc1 => ?_)
    · skip
      refine AWp.seq ?_
      refine AWp.region ?_
      refine AList.c 2 rfl rfl rfl (OpJ.assign rfl rfl) ?_
      refine AList.nil ?_
      refine AWp.ret ?_
      refine Fin.oneE rfl rfl ?_
      unfold areSacksB
      rw [any_at (p := Sk.bad) (by simp at hc0; omega) hc1]
      simp
    · skip
      refine AWp.skip ?_
      refine AWp.region ?_
      refine AList.c 8 rfl rfl rfl (OpJ.move rfl rfl) ?_
      refine AList.c 9 rfl rfl rfl (OpJ.add rfl rfl rfl (i64ok ?_)) ?_
      · simp at hc0; unfold bigN at hx; omega
      refine AList.c 3 rfl rfl rfl (OpJ.assign rfl rfl) ?_
      refine AList.nil ?_
      refine ⟨i + 1, ?_, ?_, ?_⟩
      · refine ⟨by simp at hc0; omega, fun j hj h => ?_⟩
        rcases Nat.lt_succ_iff_lt_or_eq.1 hj with h1 | rfl
        · exact hg2 j h1 hg1
        · exact hc1
      · simp at hc0; omega
      exact To.done [] rfl (by repeat (first | exact Sub.nil | refine Sub.cons rfl ?_)) rfl
  · skip
    refine AWp.exit ?_
    refine AWp.seq ?_
    refine AWp.region ?_
    refine AList.c 35 rfl rfl rfl (OpJ.move rfl rfl) ?_
    refine AList.c 36 rfl rfl rfl (OpJ.lenSlice rfl rfl sl22 rfl) ?_
    refine AList.c 37 rfl rfl rfl (OpJ.leq rfl rfl rfl) ?_
    refine AList.c 2 rfl rfl rfl (OpJ.assign rfl rfl) ?_
    refine AList.nil ?_
    refine AWp.ret ?_
    refine Fin.oneE rfl rfl ?_
    unfold areSacksB
    rw [any_none (fun j hj => hg2 j (by simp at hc0; omega) hg1)]
    simp
theorem rBatch_ok (l : List Sk) (b : List Tk) (hl : l.length ≤ bigN) (hx : b.length ≤ bigN) : Pure Try.prog 20 [sacksV l, takesV b] (.bool (isBatchB l.length b)) := by
  refine Pure.start (N := 34) Try.func20 rfl rfl (Nat.le_of_ble_eq_true rfl) ?_
  refine AWp.seq ?_
  refine AWp.region ?_
  refine AList.c 4 rfl rfl rfl (OpJ.assign rfl rfl) ?_
  refine AList.nil ?_
  refine AWp.seq ?_
  refine AWp.seq ?_
  refine AWp.region ?_
  refine AList.c 5 rfl rfl rfl (OpJ.assign rfl rfl) ?_
  refine AList.nil ?_
  refine AWp.block ?_
  refine AWp.loopK [4, 5, 6, 7, 8, 9, 10, 11, 12, 13, 14, 15, 16, 17, 18, 19, 20, 21, 22, 23, 24, 25, 26, 27, 28, 29, 30] (fun g => [(5, .p (.int .i64 ((g : Nat) : Int)))]) (fun g => g ≤ b.length ∧ ∀ j (hj : j < g) (h : g ≤ b.length), Tk.bad l.length (b[j]'(by omega)) = false) (fun g => b.length - g) 0 ⟨Nat.zero_le _, fun j hj => absurd hj (by omega)⟩ (Sub.cons rfl (Sub.nil)) (fun i hg => ?_)
  obtain ⟨hg1, hg2⟩ := hg
  refine AWp.seq ?_
  refine AWp.seq ?_
  refine AWp.region ?_
  refine AList.c 6 rfl rfl rfl (OpJ.move rfl rfl) ?_
  refine AList.c 7 rfl rfl rfl (OpJ.move rfl rfl) ?_
  refine AList.c 8 rfl rfl rfl (OpJ.lenSlice rfl rfl sl23 rfl) ?_
  refine AList.c 9 rfl rfl rfl (OpJ.lss rfl rfl rfl) ?_
  refine AList.nil ?_
  refine AWp.cond _ rfl (fun hc0 => ?_) (fun hc0 => ?_)
  · skip
    have hk0 : i < b.length := by simp at hc0; omega
    refine AWp.skip ?_
    refine AWp.seq ?_
    refine AWp.block ?_
    refine AWp.seq ?_
    refine AWp.region ?_
    refine AList.c 12 rfl rfl rfl (OpJ.move rfl rfl) ?_
    refine AList.c 13 rfl rfl rfl (OpJ.move rfl rfl) ?_
    refine AList.c 14 rfl rfl rfl (OpJ.indexEl rfl rfl rfl sl23 el23 rfl (fun _ => rfl) (by decide) hk0) ?_
    refine AList.c 15 rfl rfl rfl (OpJ.fieldAddr rfl rfl fd51_0 rfl) ?_
    refine AList.c 16 rfl rfl rfl (OpJ.load rfl rfl ty3 rfl) ?_
    refine AList.c 17 rfl rfl rfl (OpJ.move rfl rfl) ?_
    refine AList.c 18 rfl rfl rfl (OpJ.lenSlice rfl rfl sl22 rfl) ?_
    refine AList.c 19 rfl rfl rfl (OpJ.sub_ rfl rfl rfl (i64ok ?_)) ?_
    · unfold bigN at *; omega
    refine AList.c 20 rfl rfl rfl (OpJ.callP (in_ok _ _ _) rfl rfl rfl rfl rf59) ?_
    refine AList.c 21 rfl rfl rfl (OpJ.not_ rfl rfl) ?_
    refine AList.c 22 rfl rfl rfl (OpJ.move rfl rfl) ?_
    refine AList.g 23 22 rfl rfl rfl rfl rfl rfl rfl [(1, _)] (fun h => And.intro (.inl rfl) (trivial)) (fun h => (OpJ.move rfl rfl)) ?_
    refine AList.g 24 22 rfl rfl rfl rfl rfl rfl rfl [(5, _)] (fun h => And.intro (.inl rfl) (trivial)) (fun h => (OpJ.move rfl rfl)) ?_
    refine AList.g 25 22 rfl rfl rfl rfl rfl rfl rfl [(23, _), (24, _)] (fun h => And.intro (.inr ⟨_, rfl, h⟩) (And.intro (.inr ⟨_, rfl, h⟩) (trivial))) (fun h => (OpJ.indexEl rfl rfl rfl sl23 el23 rfl (fun _ => rfl) (by decide) hk0)) ?_
    refine AList.g 26 22 rfl rfl rfl rfl rfl rfl rfl [(25, _)] (fun h => And.intro (.inr ⟨_, rfl, h⟩) (trivial)) (fun h => (OpJ.fieldAddr rfl rfl fd51_1 rfl)) ?_
    refine AList.g 27 22 rfl rfl rfl rfl rfl rfl rfl [(26, _)] (fun h => And.intro (.inr ⟨_, rfl, h⟩) (trivial)) (fun h => (OpJ.load rfl rfl ty25 rfl)) ?_
    refine AList.g 28 22 rfl rfl rfl rfl rfl rfl rfl [(27, _)] (fun h => And.intro (.inr ⟨_, rfl, h⟩) (trivial)) (fun h => (OpJ.callP (rspan_ok _ _ _ _) rfl rfl rfl rfl rf49)) ?_
    refine AList.g 29 22 rfl rfl rfl rfl rfl rfl rfl [(28, _)] (fun h => And.intro (.inr ⟨_, rfl, h⟩) (trivial)) (fun h => (OpJ.not_ rfl rfl)) ?_
    refine AList.c 30 rfl rfl rfl (OpJ.or_ rfl rfl rfl ?_) ?_
    · first | (intro h; rw [h]; rfl) | (intro h; simp_all)
    refine AList.nil ?_
    refine AWp.cond _ rfl (fun hc1 => ?_) (fun hc1 => ?_)
    · skip
      refine AWp.seq ?_
      refine AWp.region ?_
      refine AList.c 4 rfl rfl rfl (OpJ.assign rfl rfl) ?_
      refine AList.nil ?_
      refine AWp.ret ?_
      refine Fin.oneE rfl rfl ?_
      unfold isBatchB
      rw [any_at (p := Tk.bad l.length) (by simp at hc0; omega) hc1]
      simp
    · skip
      refine AWp.skip ?_
      refine AWp.region ?_
      refine AList.c 10 rfl rfl rfl (OpJ.move rfl rfl) ?_
      refine AList.c 11 rfl rfl rfl (OpJ.add rfl rfl rfl (i64ok ?_)) ?_
      · simp at hc0; unfold bigN at hx; omega
      refine AList.c 5 rfl rfl rfl (OpJ.assign rfl rfl) ?_
      refine AList.nil ?_
      refine ⟨i + 1, ?_, ?_, ?_⟩
      · refine ⟨by simp at hc0; omega, fun j hj h => ?_⟩
        rcases Nat.lt_succ_iff_lt_or_eq.1 hj with h1 | rfl
        · exact hg2 j h1 hg1
        · exact hc1
      · simp at hc0; omega
      exact To.done [] rfl (by repeat (first | exact Sub.nil | refine Sub.cons rfl ?_)) rfl
  · skip
    refine AWp.exit ?_
    refine AWp.seq ?_
    refine AWp.region ?_
    refine AList.c 31 rfl rfl rfl (OpJ.move rfl rfl) ?_
    refine AList.c 32 rfl rfl rfl (OpJ.lenSlice rfl rfl sl23 rfl) ?_
    refine AList.c 33 rfl rfl rfl (OpJ.callP (in_ok _ _ _) rfl rfl rfl rfl rf59) ?_
    refine AList.c 4 rfl rfl rfl (OpJ.assign rfl rfl) ?_
    refine AList.nil ?_
    refine AWp.ret ?_
    refine Fin.oneE rfl rfl ?_
    unfold isBatchB
    rw [any_none (fun j hj => hg2 j (by simp at hc0; omega) hg1)]
    simp
end Go.Proofs.Ytmcejcidbekpkaa
