/-
  What is valid in the other text; the curve at a ratio in both.
-/
import Derived.Test.YthiapodcippnoaaSd1
import Derived.Test.YthiapodcippnoaaSdQ
set_option linter.unusedVariables false
set_option maxRecDepth 100000
set_option maxHeartbeats 4000000
set_option linter.unusedSimpArgs false
namespace Go.Proofs.Ythiapodcippnoaa
open Go.AF
theorem rcurve_ok (c : List Tnt) (hb : c.length ≤ bigN) : Pure Try.prog 28 [curV c] (.bool (decide (okC c))) := by
  unfold bigN at hb
  refine Pure.start (N := 70) Try.func28 rfl rfl (Nat.le_of_ble_eq_true rfl) ?_
  refine AWp.seq ?_
  refine AWp.region ?_
  refine AList.c 2 rfl rfl rfl (OpJ.assign rfl rfl) ?_
  refine AList.nil ?_
  refine AWp.seq ?_
  refine AWp.seq ?_
  refine AWp.region ?_
  refine AList.c 4 rfl rfl rfl (OpJ.move rfl rfl) ?_
  refine AList.c 5 rfl rfl rfl (OpJ.lenSlice rfl rfl sl22 rfl) ?_
  refine AList.c 6 rfl rfl rfl (OpJ.callP (in_ok _ _ _) rfl rfl rfl rfl rf52) ?_
  refine AList.c 7 rfl rfl rfl (OpJ.not_ rfl rfl) ?_
  refine AList.c 8 rfl rfl rfl (OpJ.move rfl rfl) ?_
  refine AList.g 9 8 rfl rfl rfl rfl rfl rfl rfl [(0, _)] (fun h => And.intro (.inl rfl) (trivial)) (fun h => (OpJ.move rfl rfl)) ?_
  refine AList.g 10 8 rfl rfl rfl rfl rfl rfl rfl [(9, _)] (fun h => And.intro (.inr ⟨_, rfl, h⟩) (trivial)) (fun h => (OpJ.indexG (g := tn c) (k := 0) (fun _ h => tn_get h) rfl rfl rfl sl22 el22 rfl (fun _ => rfl) (by decide) (by simp [inB] at h; omega))) ?_
  refine AList.g 11 8 rfl rfl rfl rfl rfl rfl rfl [(10, _)] (fun h => And.intro (.inr ⟨_, rfl, h⟩) (trivial)) (fun h => (OpJ.fieldAddr rfl rfl fd84_0 rfl)) ?_
  refine AList.g 12 8 rfl rfl rfl rfl rfl rfl rfl [(11, _)] (fun h => And.intro (.inr ⟨_, rfl, h⟩) (trivial)) (fun h => (OpJ.load rfl rfl ty3 rfl)) ?_
  refine AList.g 13 8 rfl rfl rfl rfl rfl rfl rfl [(12, _)] (fun h => And.intro (.inr ⟨_, rfl, h⟩) (trivial)) (fun h => (OpJ.neq rfl rfl rfl)) ?_
  refine AList.c 14 rfl rfl rfl (OpJ.or_ rfl rfl rfl ?_) ?_
  · first | (intro h; rw [h]; rfl) | (intro h; simp_all)
  refine AList.c 15 rfl rfl rfl (OpJ.move rfl rfl) ?_
  refine AList.g 16 15 rfl rfl rfl rfl rfl rfl rfl [(0, _)] (fun h => And.intro (.inl rfl) (trivial)) (fun h => (OpJ.move rfl rfl)) ?_
  refine AList.g 17 15 rfl rfl rfl rfl rfl rfl rfl [(0, _)] (fun h => And.intro (.inl rfl) (trivial)) (fun h => (OpJ.move rfl rfl)) ?_
  refine AList.g 18 15 rfl rfl rfl rfl rfl rfl rfl [(17, _)] (fun h => And.intro (.inr ⟨_, rfl, h⟩) (trivial)) (fun h => (OpJ.lenSlice rfl rfl sl22 rfl)) ?_
  refine AList.g 19 15 rfl rfl rfl rfl rfl rfl rfl [(18, _)] (fun h => And.intro (.inr ⟨_, rfl, h⟩) (trivial)) (fun h => (OpJ.sub_ (m := ((c.length - 1 : Nat) : Int)) rfl rfl rfl ((i64ok (by simp [inB] at h; omega)).trans (by simp [inB] at h; omega)))) ?_
  refine AList.g 20 15 rfl rfl rfl rfl rfl rfl rfl [(16, _), (19, _)] (fun h => And.intro (.inr ⟨_, rfl, h⟩) (And.intro (.inr ⟨_, rfl, h⟩) (trivial))) (fun h => (OpJ.indexG (g := tn c) (fun _ h => tn_get h) rfl rfl rfl sl22 el22 rfl (fun _ => rfl) (by decide) (by simp [inB] at h; omega))) ?_
  refine AList.g 21 15 rfl rfl rfl rfl rfl rfl rfl [(20, _)] (fun h => And.intro (.inr ⟨_, rfl, h⟩) (trivial)) (fun h => (OpJ.fieldAddr rfl rfl fd84_0 rfl)) ?_
  refine AList.g 22 15 rfl rfl rfl rfl rfl rfl rfl [(21, _)] (fun h => And.intro (.inr ⟨_, rfl, h⟩) (trivial)) (fun h => (OpJ.load rfl rfl ty3 rfl)) ?_
  refine AList.g 23 15 rfl rfl rfl rfl rfl rfl rfl [(22, _)] (fun h => And.intro (.inr ⟨_, rfl, h⟩) (trivial)) (fun h => (OpJ.neq rfl rfl rfl)) ?_
  refine AList.c 24 rfl rfl rfl (OpJ.or_ rfl rfl rfl ?_) ?_
  · first | (intro h; rw [h]; rfl) | (intro h; simp_all)
  refine AList.nil ?_
  refine AWp.cond _ rfl (fun hc0 => ?_) (fun hc0 => ?_)
  · skip
    refine AWp.seq ?_
    refine AWp.region ?_
    refine AList.c 2 rfl rfl rfl (OpJ.assign rfl rfl) ?_
    refine AList.nil ?_
    refine AWp.ret ?_
    refine Fin.oneE rfl rfl ?_
    rw [decide_eq_false (p := okC c) (fun h => by have h1 := h.1; have h2 := h.2.1; have h3 := h.2.2.1; simp [inB, h2, h3] at hc0; omega)]
  · skip
    have hA : (2 ≤ c.length ∧ c.length ≤ 8) ∧ (tn c 0).r = 0 ∧ (tn c (c.length - 1)).r = 1000 := by simp [inB] at hc0; omega
    refine AWp.skip ?_
    refine AWp.seq ?_
    refine AWp.seq ?_
    refine AWp.region ?_
    refine AList.c 3 rfl rfl rfl (OpJ.assign rfl rfl) ?_
    refine AList.nil ?_
    refine AWp.block ?_
    refine AWp.loopHL [0] (fun g => [(3, .p (.int .i64 ((g : Nat) : Int)))]) (fun g => []) (fun g => g ≤ c.length ∧ ∀ j, j < g → stepOk c j) (fun g => c.length - g) 0 ⟨Nat.zero_le _, fun j hj => absurd hj (by omega)⟩ (To.sub (Sub.chk (Sub.cons rfl (Sub.nil)))) (fun i hg => ?_)
    obtain ⟨hg1, hg2⟩ := hg
    refine AWp.seq ?_
    refine AWp.seq ?_
    refine AWp.region ?_
    refine AList.c 25 rfl rfl rfl (OpJ.move rfl rfl) ?_
    refine AList.c 26 rfl rfl rfl (OpJ.move rfl rfl) ?_
    refine AList.c 27 rfl rfl rfl (OpJ.lenSlice rfl rfl sl22 rfl) ?_
    refine AList.c 28 rfl rfl rfl (OpJ.lss rfl rfl rfl) ?_
    refine AList.nil ?_
    refine AWp.cond _ rfl (fun hc1 => ?_) (fun hc1 => ?_)
    · skip
      have hk0 : i < c.length := by have h := of_decide_eq_true hc1; omega
      refine AWp.skip ?_
      refine AWp.seq ?_
      refine AWp.block ?_
      refine AWp.seq ?_
      refine AWp.regionDraw 39 mixed (by kernel_rfl) (by decide) ?_
      refine AQuiet.cons 31 rfl rfl rfl (OpJ.move rfl rfl) ?_
      refine AQuiet.cons 32 rfl rfl rfl (OpJ.move rfl rfl) ?_
      refine AQuiet.cons 33 rfl rfl rfl (OpJ.indexG (g := tn c) (fun _ h => tn_get h) rfl rfl rfl sl22 el22 rfl (fun _ => rfl) (by decide) hk0) ?_
      refine AQuiet.cons 34 rfl rfl rfl (OpJ.fieldAddr rfl rfl fd84_1 rfl) ?_
      refine AQuiet.cons 35 rfl rfl rfl (OpJ.load rfl rfl ty3 rfl) ?_
      refine AQuiet.cons 36 rfl rfl rfl (OpJ.callP (in_ok _ _ _) rfl rfl rfl rfl rf52) ?_
      refine AQuiet.cons 37 rfl rfl rfl (OpJ.not_ rfl rfl) ?_
      refine AQuiet.cons 38 rfl rfl rfl (OpJ.move rfl rfl) ?_
      refine AQuiet.guard 39 38 rfl rfl rfl rfl rfl rfl rfl [(3, _)] (fun h => And.intro (.inl rfl) (trivial)) (fun h => (OpJ.move rfl rfl)) ?_
      refine AQuiet.guard 40 38 rfl rfl rfl rfl rfl rfl rfl [(39, _)] (fun h => And.intro (.inr ⟨_, rfl, h⟩) (trivial)) (fun h => (OpJ.gtr rfl rfl rfl)) ?_
      refine AQuiet.guard 41 38 rfl rfl rfl rfl rfl rfl rfl [(40, _)] (fun h => And.intro (.inr ⟨_, rfl, h⟩) (trivial)) (fun h => (OpJ.move rfl rfl)) ?_
      refine AQuiet.guard 42 41 rfl rfl rfl rfl rfl rfl rfl [(0, _)] (fun h => And.intro (.inl rfl) (trivial)) (fun h => (OpJ.move rfl rfl)) ?_
      refine AQuiet.guard 43 41 rfl rfl rfl rfl rfl rfl rfl [(3, _)] (fun h => And.intro (.inl rfl) (trivial)) (fun h => (OpJ.move rfl rfl)) ?_
      refine AQuiet.guard 44 41 rfl rfl rfl rfl rfl rfl rfl [(42, _), (43, _)] (fun h => And.intro (.inr ⟨_, rfl, h⟩) (And.intro (.inr ⟨_, rfl, h⟩) (trivial))) (fun h => (OpJ.indexG (g := tn c) (fun _ h => tn_get h) rfl rfl rfl sl22 el22 rfl (fun _ => rfl) (by decide) hk0)) ?_
      refine AQuiet.guard 45 41 rfl rfl rfl rfl rfl rfl rfl [(44, _)] (fun h => And.intro (.inr ⟨_, rfl, h⟩) (trivial)) (fun h => (OpJ.fieldAddr rfl rfl fd84_0 rfl)) ?_
      refine AQuiet.guard 46 41 rfl rfl rfl rfl rfl rfl rfl [(45, _)] (fun h => And.intro (.inr ⟨_, rfl, h⟩) (trivial)) (fun h => (OpJ.load rfl rfl ty3 rfl)) ?_
      refine AQuiet.guard 47 41 rfl rfl rfl rfl rfl rfl rfl [(0, _)] (fun h => And.intro (.inl rfl) (trivial)) (fun h => (OpJ.move rfl rfl)) ?_
      refine AQuiet.guard 48 41 rfl rfl rfl rfl rfl rfl rfl [(3, _)] (fun h => And.intro (.inl rfl) (trivial)) (fun h => (OpJ.move rfl rfl)) ?_
      refine AQuiet.guard 49 41 rfl rfl rfl rfl rfl rfl rfl [(48, _)] (fun h => And.intro (.inr ⟨_, rfl, h⟩) (trivial)) (fun h => (OpJ.sub_ (m := ((i - 1 : Nat) : Int)) rfl rfl rfl ((i64ok (by simp at h; omega)).trans (by simp at h; omega)))) ?_
      refine AQuiet.guard 50 41 rfl rfl rfl rfl rfl rfl rfl [(47, _), (49, _)] (fun h => And.intro (.inr ⟨_, rfl, h⟩) (And.intro (.inr ⟨_, rfl, h⟩) (trivial))) (fun h => (OpJ.indexG (g := tn c) (fun _ h => tn_get h) rfl rfl rfl sl22 el22 rfl (fun _ => rfl) (by decide) (by omega))) ?_
      refine AQuiet.guard 51 41 rfl rfl rfl rfl rfl rfl rfl [(50, _)] (fun h => And.intro (.inr ⟨_, rfl, h⟩) (trivial)) (fun h => (OpJ.fieldAddr rfl rfl fd84_0 rfl)) ?_
      refine AQuiet.guard 52 41 rfl rfl rfl rfl rfl rfl rfl [(51, _)] (fun h => And.intro (.inr ⟨_, rfl, h⟩) (trivial)) (fun h => (OpJ.load rfl rfl ty3 rfl)) ?_
      refine AQuiet.guard 53 41 rfl rfl rfl rfl rfl rfl rfl [(46, _), (52, _)] (fun h => And.intro (.inr ⟨_, rfl, h⟩) (And.intro (.inr ⟨_, rfl, h⟩) (trivial))) (fun h => (OpJ.leq rfl rfl rfl)) ?_
      refine AQuiet.guard 54 41 rfl rfl rfl rfl rfl rfl rfl [(53, _)] (fun h => And.intro (.inr ⟨_, rfl, h⟩) (trivial)) (fun h => (OpJ.move rfl rfl)) ?_
      refine AQuiet.guard 55 54 rfl rfl rfl rfl rfl rfl rfl [(0, _)] (fun h => And.intro (.inl rfl) (trivial)) (fun h => (OpJ.move rfl rfl)) ?_
      refine AQuiet.guard 56 54 rfl rfl rfl rfl rfl rfl rfl [(3, _)] (fun h => And.intro (.inl rfl) (trivial)) (fun h => (OpJ.move rfl rfl)) ?_
      refine AQuiet.guard 57 54 rfl rfl rfl rfl rfl rfl rfl [(55, _), (56, _)] (fun h => And.intro (.inr ⟨_, rfl, h⟩) (And.intro (.inr ⟨_, rfl, h⟩) (trivial))) (fun h => (OpJ.indexG (g := tn c) (fun _ h => tn_get h) rfl rfl rfl sl22 el22 rfl (fun _ => rfl) (by decide) hk0)) ?_
      refine AQuiet.guard 58 54 rfl rfl rfl rfl rfl rfl rfl [(57, _)] (fun h => And.intro (.inr ⟨_, rfl, h⟩) (trivial)) (fun h => (OpJ.fieldAddr rfl rfl fd84_1 rfl)) ?_
      refine AQuiet.guard 59 54 rfl rfl rfl rfl rfl rfl rfl [(58, _)] (fun h => And.intro (.inr ⟨_, rfl, h⟩) (trivial)) (fun h => (OpJ.load rfl rfl ty3 rfl)) ?_
      refine AQuiet.guard 60 54 rfl rfl rfl rfl rfl rfl rfl [(0, _)] (fun h => And.intro (.inl rfl) (trivial)) (fun h => (OpJ.move rfl rfl)) ?_
      refine AQuiet.guard 61 54 rfl rfl rfl rfl rfl rfl rfl [(3, _)] (fun h => And.intro (.inl rfl) (trivial)) (fun h => (OpJ.move rfl rfl)) ?_
      refine AQuiet.guard 62 54 rfl rfl rfl rfl rfl rfl rfl [(61, _)] (fun h => And.intro (.inr ⟨_, rfl, h⟩) (trivial)) (fun h => (OpJ.sub_ (m := ((i - 1 : Nat) : Int)) rfl rfl rfl ((i64ok (by simp at h; omega)).trans (by simp at h; omega)))) ?_
      refine AQuiet.guard 63 54 rfl rfl rfl rfl rfl rfl rfl [(60, _), (62, _)] (fun h => And.intro (.inr ⟨_, rfl, h⟩) (And.intro (.inr ⟨_, rfl, h⟩) (trivial))) (fun h => (OpJ.indexG (g := tn c) (fun _ h => tn_get h) rfl rfl rfl sl22 el22 rfl (fun _ => rfl) (by decide) (by omega))) ?_
      refine AQuiet.guard 64 54 rfl rfl rfl rfl rfl rfl rfl [(63, _)] (fun h => And.intro (.inr ⟨_, rfl, h⟩) (trivial)) (fun h => (OpJ.fieldAddr rfl rfl fd84_1 rfl)) ?_
      refine AQuiet.guard 65 54 rfl rfl rfl rfl rfl rfl rfl [(64, _)] (fun h => And.intro (.inr ⟨_, rfl, h⟩) (trivial)) (fun h => (OpJ.load rfl rfl ty3 rfl)) ?_
      refine AQuiet.guard 66 54 rfl rfl rfl rfl rfl rfl rfl [(59, _), (65, _)] (fun h => And.intro (.inr ⟨_, rfl, h⟩) (And.intro (.inr ⟨_, rfl, h⟩) (trivial))) (fun h => (OpJ.lss rfl rfl rfl)) ?_
      refine AQuiet.guard 67 41 rfl rfl rfl rfl rfl rfl rfl [(54, _), (66, _)] (fun h => And.intro (.inr ⟨_, rfl, h⟩) (And.intro (.inl rfl) (trivial))) (fun h => (OpJ.or_ rfl rfl rfl ?_)) ?_
      · first | (intro h; rw [h]; rfl) | (intro h; simp_all)
      refine AQuiet.guard 68 38 rfl rfl rfl rfl rfl rfl rfl [(41, _), (67, _)] (fun h => And.intro (.inr ⟨_, rfl, h⟩) (And.intro (.inl rfl) (trivial))) (fun h => (OpJ.and_ rfl rfl rfl ?_)) ?_
      · first | (intro h; rw [h]; rfl) | (intro h; simp_all)
      refine AQuiet.cons 69 rfl rfl rfl (OpJ.or_ rfl rfl rfl ?_) ?_
      · first | (intro h; rw [h]; rfl) | (intro h; simp_all)
      refine AQuiet.nil ?_
      refine AList.nil ?_
      refine AWp.cond _ rfl (fun hc2 => ?_) (fun hc2 => ?_)
      · skip
        refine AWp.seq ?_
        refine AWp.region ?_
        refine AList.c 2 rfl rfl rfl (OpJ.assign rfl rfl) ?_
        refine AList.nil ?_
        refine AWp.ret ?_
        refine Fin.oneE rfl rfl ?_
        rw [decide_eq_false (p := okC c) (fun h => by have h1 := h.2.2.2 i hk0; unfold stepOk at h1; simp [inB] at hc2; omega)]
      · skip
        have hst : stepOk c i := by unfold stepOk; simp [inB] at hc2; omega
        refine AWp.skip ?_
        refine AWp.region ?_
        refine AList.c 29 rfl rfl rfl (OpJ.move rfl rfl) ?_
        refine AList.c 30 rfl rfl rfl (OpJ.add rfl rfl rfl (i64ok ?_)) ?_
        · omega
        refine AList.c 3 rfl rfl rfl (OpJ.assign rfl rfl) ?_
        refine AList.nil ?_
        refine ⟨i + 1, ?_, ?_, ?_⟩
        · refine ⟨by omega, fun j hj => ?_⟩
          rcases Nat.lt_succ_iff_lt_or_eq.1 hj with h1 | rfl
          · exact hg2 j h1
          · exact hst
        · omega
        exact To.done [] rfl (by repeat (first | exact Sub.nil | refine Sub.cons rfl ?_)) rfl
    · skip
      obtain rfl : i = c.length := by have h := of_decide_eq_false hc1; omega
      refine AWp.exit ?_
      refine AWp.seq ?_
      refine AWp.region ?_
      refine AList.c 2 rfl rfl rfl (OpJ.assign rfl rfl) ?_
      refine AList.nil ?_
      refine AWp.ret ?_
      refine Fin.oneE rfl rfl ?_
      rw [decide_eq_true (p := okC c) ⟨hA.1, hA.2.1, hA.2.2, hg2⟩]
theorem rleads_ok (l : Lds) (hb : l.st.length ≤ bigN) : Pure Try.prog 29 [ldV l] (.bool (ldB l)) := by
  unfold bigN at hb
  refine Pure.start (N := 63) Try.func29 rfl rfl (Nat.le_of_ble_eq_true rfl) ?_
  refine AWp.seq ?_
  refine AWp.region ?_
  refine AList.c 1 rfl rfl rfl (OpJ.boxImm rfl rfl rfl) ?_
  refine AList.c 2 rfl rfl rfl (OpJ.assign rfl rfl) ?_
  refine AList.nil ?_
  refine AWp.seq ?_
  refine AWp.seq ?_
  refine AWp.region ?_
  refine AList.c 3 rfl rfl rfl (OpJ.assign rfl rfl) ?_
  refine AList.nil ?_
  refine AWp.block ?_
  refine AWp.loopKL [1, 29, 30, 31, 32, 33, 34, 35, 36, 37, 38, 39, 40, 41, 42, 43, 44, 45, 46, 47, 48, 49, 50, 51, 52, 53, 54, 55, 56, 57, 58, 59, 60, 61, 62] (fun g => [(3, .p (.int .i64 ((g : Nat) : Int)))]) (fun g => g ≤ l.st.length ∧ ∀ j, j < g → stkB (stk l.st j) = true) (fun g => l.st.length - g) 0 ⟨Nat.zero_le _, fun j hj => absurd hj (by omega)⟩ (Sub.cons rfl (Sub.nil)) (fun i hg => ?_)
  obtain ⟨hg1, hg2⟩ := hg
  refine AWp.seq ?_
  refine AWp.seq ?_
  refine AWp.region ?_
  refine AList.c 4 rfl rfl rfl (OpJ.move rfl rfl) ?_
  refine AList.c 5 rfl rfl rfl (OpJ.fieldAddr rfl rfl fd28_3 rfl) ?_
  refine AList.c 6 rfl rfl rfl (OpJ.load rfl rfl ty26 rfl) ?_
  refine AList.c 7 rfl rfl rfl (OpJ.lenSlice rfl rfl sl26 rfl) ?_
  refine AList.c 8 rfl rfl rfl (OpJ.lss rfl rfl rfl) ?_
  refine AList.nil ?_
  refine AWp.cond _ rfl (fun hc0 => ?_) (fun hc0 => ?_)
  · skip
    have hk0 : i < l.st.length := by have h := of_decide_eq_true hc0; omega
    refine AWp.skip ?_
    refine AWp.seq ?_
    refine AWp.block ?_
    refine AWp.seq ?_
    refine AWp.region ?_
    refine AList.c 11 rfl rfl rfl (OpJ.fieldAddr rfl rfl fd28_3 rfl) ?_
    refine AList.c 12 rfl rfl rfl (OpJ.load rfl rfl ty26 rfl) ?_
    refine AList.c 13 rfl rfl rfl (OpJ.move rfl rfl) ?_
    refine AList.c 14 rfl rfl rfl (OpJ.indexG (g := stk l.st) (fun _ h => stk_get h) rfl rfl rfl sl26 el26 rfl (fun _ => rfl) (by decide) hk0) ?_
    refine AList.c 15 rfl rfl rfl (OpJ.fieldAddr rfl rfl fd51_0 rfl) ?_
    refine AList.c 16 rfl rfl rfl (OpJ.load rfl rfl ty25 rfl) ?_
    refine AList.c 17 rfl rfl rfl (OpJ.callP (rspan_ok _ _ _ _) rfl rfl rfl rfl rf62) ?_
    refine AList.c 18 rfl rfl rfl (OpJ.not_ rfl rfl) ?_
    refine AList.c 19 rfl rfl rfl (OpJ.move rfl rfl) ?_
    refine AList.g 20 19 rfl rfl rfl rfl rfl rfl rfl [(1, _)] (fun h => And.intro (.inl rfl) (trivial)) (fun h => (OpJ.fieldAddr rfl rfl fd28_3 rfl)) ?_
    refine AList.g 21 19 rfl rfl rfl rfl rfl rfl rfl [(20, _)] (fun h => And.intro (.inr ⟨_, rfl, h⟩) (trivial)) (fun h => (OpJ.load rfl rfl ty26 rfl)) ?_
    refine AList.g 22 19 rfl rfl rfl rfl rfl rfl rfl [(3, _)] (fun h => And.intro (.inl rfl) (trivial)) (fun h => (OpJ.move rfl rfl)) ?_
    refine AList.g 23 19 rfl rfl rfl rfl rfl rfl rfl [(21, _), (22, _)] (fun h => And.intro (.inr ⟨_, rfl, h⟩) (And.intro (.inr ⟨_, rfl, h⟩) (trivial))) (fun h => (OpJ.indexG (g := stk l.st) (fun _ h => stk_get h) rfl rfl rfl sl26 el26 rfl (fun _ => rfl) (by decide) hk0)) ?_
    refine AList.g 24 19 rfl rfl rfl rfl rfl rfl rfl [(23, _)] (fun h => And.intro (.inr ⟨_, rfl, h⟩) (trivial)) (fun h => (OpJ.fieldAddr rfl rfl fd51_1 rfl)) ?_
    refine AList.g 25 19 rfl rfl rfl rfl rfl rfl rfl [(24, _)] (fun h => And.intro (.inr ⟨_, rfl, h⟩) (trivial)) (fun h => (OpJ.load rfl rfl ty25 rfl)) ?_
    refine AList.g 26 19 rfl rfl rfl rfl rfl rfl rfl [(25, _)] (fun h => And.intro (.inr ⟨_, rfl, h⟩) (trivial)) (fun h => (OpJ.callP (rspan_ok _ _ _ _) rfl rfl rfl rfl rf62)) ?_
    refine AList.g 27 19 rfl rfl rfl rfl rfl rfl rfl [(26, _)] (fun h => And.intro (.inr ⟨_, rfl, h⟩) (trivial)) (fun h => (OpJ.not_ rfl rfl)) ?_
    refine AList.c 28 rfl rfl rfl (OpJ.or_ rfl rfl rfl ?_) ?_
    · first | (intro h; rw [h]; rfl) | (intro h; simp_all)
    refine AList.nil ?_
    refine AWp.cond _ rfl (fun hc1 => ?_) (fun hc1 => ?_)
    · skip
      have hst : stkB (stk l.st i) = false := by unfold stkB; rw [Bool.eq_false_iff]; intro h; rw [Bool.and_eq_true] at h; rw [h.1, h.2] at hc1; cases hc1
      refine AWp.seq ?_
      refine AWp.region ?_
      refine AList.c 2 rfl rfl rfl (OpJ.assign rfl rfl) ?_
      refine AList.nil ?_
      refine AWp.ret ?_
      refine Fin.oneE rfl rfl ?_
      rw [ldB_st_false (stk_mem hk0) hst]
    · skip
      have hst : stkB (stk l.st i) = true := by unfold stkB; cases h1 : spB (stk l.st i).rlo (stk l.st i).rhi 0 1000 <;> rw [h1] at hc1 <;> simp at hc1; rw [hc1]; rfl
      refine AWp.skip ?_
      refine AWp.region ?_
      refine AList.c 9 rfl rfl rfl (OpJ.move rfl rfl) ?_
      refine AList.c 10 rfl rfl rfl (OpJ.add rfl rfl rfl (i64ok ?_)) ?_
      · omega
      refine AList.c 3 rfl rfl rfl (OpJ.assign rfl rfl) ?_
      refine AList.nil ?_
      refine ⟨i + 1, ?_, ?_, ?_⟩
      · refine ⟨by omega, fun j hj => ?_⟩
        rcases Nat.lt_succ_iff_lt_or_eq.1 hj with h1 | rfl
        · exact hg2 j h1
        · exact hst
      · omega
      exact To.done [] rfl (by repeat (first | exact Sub.nil | refine Sub.cons rfl ?_)) rfl
  · skip
    obtain rfl : i = l.st.length := by have h := of_decide_eq_false hc0; omega
    refine AWp.exit ?_
    refine AWp.seq ?_
    refine AWp.region ?_
    refine AList.c 29 rfl rfl rfl (OpJ.fieldAddr rfl rfl fd28_3 rfl) ?_
    refine AList.c 30 rfl rfl rfl (OpJ.load rfl rfl ty26 rfl) ?_
    refine AList.c 31 rfl rfl rfl (OpJ.lenSlice rfl rfl sl26 rfl) ?_
    refine AList.c 32 rfl rfl rfl (OpJ.leq rfl rfl rfl) ?_
    refine AList.c 33 rfl rfl rfl (OpJ.move rfl rfl) ?_
    refine AList.g 34 33 rfl rfl rfl rfl rfl rfl rfl [(1, _)] (fun h => And.intro (.inl rfl) (trivial)) (fun h => (OpJ.fieldAddr rfl rfl fd28_0 rfl)) ?_
    refine AList.g 35 33 rfl rfl rfl rfl rfl rfl rfl [(34, _)] (fun h => And.intro (.inr ⟨_, rfl, h⟩) (trivial)) (fun h => (OpJ.load rfl rfl ty25 rfl)) ?_
    refine AList.g 36 33 rfl rfl rfl rfl rfl rfl rfl [(35, _)] (fun h => And.intro (.inr ⟨_, rfl, h⟩) (trivial)) (fun h => (OpJ.callP (rspan_ok _ _ _ _) rfl rfl rfl rfl rf62)) ?_
    refine AList.c 37 rfl rfl rfl (OpJ.and_ rfl rfl rfl ?_) ?_
    · first | (intro h; rw [h]; rfl) | (intro h; simp_all)
    refine AList.c 38 rfl rfl rfl (OpJ.move rfl rfl) ?_
    refine AList.g 39 38 rfl rfl rfl rfl rfl rfl rfl [(1, _)] (fun h => And.intro (.inl rfl) (trivial)) (fun h => (OpJ.fieldAddr rfl rfl fd28_1 rfl)) ?_
    refine AList.g 40 38 rfl rfl rfl rfl rfl rfl rfl [(39, _)] (fun h => And.intro (.inr ⟨_, rfl, h⟩) (trivial)) (fun h => (OpJ.load rfl rfl ty25 rfl)) ?_
    refine AList.g 41 38 rfl rfl rfl rfl rfl rfl rfl [(40, _)] (fun h => And.intro (.inr ⟨_, rfl, h⟩) (trivial)) (fun h => (OpJ.callP (rspan_ok _ _ _ _) rfl rfl rfl rfl rf62)) ?_
    refine AList.c 42 rfl rfl rfl (OpJ.and_ rfl rfl rfl ?_) ?_
    · first | (intro h; rw [h]; rfl) | (intro h; simp_all)
    refine AList.c 43 rfl rfl rfl (OpJ.move rfl rfl) ?_
    refine AList.g 44 43 rfl rfl rfl rfl rfl rfl rfl [(1, _)] (fun h => And.intro (.inl rfl) (trivial)) (fun h => (OpJ.fieldAddr rfl rfl fd28_2 rfl)) ?_
    refine AList.g 45 43 rfl rfl rfl rfl rfl rfl rfl [(44, _)] (fun h => And.intro (.inr ⟨_, rfl, h⟩) (trivial)) (fun h => (OpJ.load rfl rfl ty3 rfl)) ?_
    refine AList.g 46 43 rfl rfl rfl rfl rfl rfl rfl [(45, _)] (fun h => And.intro (.inr ⟨_, rfl, h⟩) (trivial)) (fun h => (OpJ.callP (in_ok _ _ _) rfl rfl rfl rfl rf52)) ?_
    refine AList.c 47 rfl rfl rfl (OpJ.and_ rfl rfl rfl ?_) ?_
    · first | (intro h; rw [h]; rfl) | (intro h; simp_all)
    refine AList.c 48 rfl rfl rfl (OpJ.move rfl rfl) ?_
    refine AList.g 49 48 rfl rfl rfl rfl rfl rfl rfl [(1, _)] (fun h => And.intro (.inl rfl) (trivial)) (fun h => (OpJ.fieldAddr rfl rfl fd28_4 rfl)) ?_
    refine AList.g 50 48 rfl rfl rfl rfl rfl rfl rfl [(49, _)] (fun h => And.intro (.inr ⟨_, rfl, h⟩) (trivial)) (fun h => (OpJ.load rfl rfl ty25 rfl)) ?_
    refine AList.g 51 48 rfl rfl rfl rfl rfl rfl rfl [(50, _)] (fun h => And.intro (.inr ⟨_, rfl, h⟩) (trivial)) (fun h => (OpJ.callP (rspan_ok _ _ _ _) rfl rfl rfl rfl rf62)) ?_
    refine AList.c 52 rfl rfl rfl (OpJ.and_ rfl rfl rfl ?_) ?_
    · first | (intro h; rw [h]; rfl) | (intro h; simp_all)
    refine AList.c 53 rfl rfl rfl (OpJ.move rfl rfl) ?_
    refine AList.g 54 53 rfl rfl rfl rfl rfl rfl rfl [(1, _)] (fun h => And.intro (.inl rfl) (trivial)) (fun h => (OpJ.fieldAddr rfl rfl fd28_5 rfl)) ?_
    refine AList.g 55 53 rfl rfl rfl rfl rfl rfl rfl [(54, _)] (fun h => And.intro (.inr ⟨_, rfl, h⟩) (trivial)) (fun h => (OpJ.load rfl rfl ty25 rfl)) ?_
    refine AList.g 56 53 rfl rfl rfl rfl rfl rfl rfl [(55, _)] (fun h => And.intro (.inr ⟨_, rfl, h⟩) (trivial)) (fun h => (OpJ.callP (rspan_ok _ _ _ _) rfl rfl rfl rfl rf62)) ?_
    refine AList.c 57 rfl rfl rfl (OpJ.and_ rfl rfl rfl ?_) ?_
    · first | (intro h; rw [h]; rfl) | (intro h; simp_all)
    refine AList.c 58 rfl rfl rfl (OpJ.move rfl rfl) ?_
    refine AList.g 59 58 rfl rfl rfl rfl rfl rfl rfl [(1, _)] (fun h => And.intro (.inl rfl) (trivial)) (fun h => (OpJ.fieldAddr rfl rfl fd28_6 rfl)) ?_
    refine AList.g 60 58 rfl rfl rfl rfl rfl rfl rfl [(59, _)] (fun h => And.intro (.inr ⟨_, rfl, h⟩) (trivial)) (fun h => (OpJ.load rfl rfl ty3 rfl)) ?_
    refine AList.g 61 58 rfl rfl rfl rfl rfl rfl rfl [(60, _)] (fun h => And.intro (.inr ⟨_, rfl, h⟩) (trivial)) (fun h => (OpJ.callP (in_ok _ _ _) rfl rfl rfl rfl rf52)) ?_
    refine AList.c 62 rfl rfl rfl (OpJ.and_ rfl rfl rfl ?_) ?_
    · first | (intro h; rw [h]; rfl) | (intro h; simp_all)
    refine AList.c 2 rfl rfl rfl (OpJ.assign rfl rfl) ?_
    refine AList.nil ?_
    refine AWp.ret ?_
    refine Fin.oneE rfl rfl ?_
    rw [ldB_st_true (fun x hx => by obtain ⟨j, hj, rfl⟩ := List.getElem_of_mem hx; rw [stk_get hj]; exact hg2 j hj), len6]
theorem rall_ok (l : List Lds) (hb : l.length ≤ bigN) (hs : ∀ x ∈ l, x.st.length ≤ bigN) : Pure Try.prog 51 [ldsV l] (.bool (l.all ldB)) := by
  unfold bigN at hb
  refine Pure.start (N := 16) Try.func51 rfl rfl (Nat.le_of_ble_eq_true rfl) ?_
  refine AWp.seq ?_
  refine AWp.region ?_
  refine AList.c 2 rfl rfl rfl (OpJ.assign rfl rfl) ?_
  refine AList.nil ?_
  refine AWp.seq ?_
  refine AWp.seq ?_
  refine AWp.region ?_
  refine AList.c 3 rfl rfl rfl (OpJ.assign rfl rfl) ?_
  refine AList.nil ?_
  refine AWp.block ?_
  refine AWp.loopKL [0] (fun g => [(3, .p (.int .i64 ((g : Nat) : Int)))]) (fun g => g ≤ l.length ∧ ∀ j, j < g → ldB (ld l j) = true) (fun g => l.length - g) 0 ⟨Nat.zero_le _, fun j hj => absurd hj (by omega)⟩ (Sub.cons rfl (Sub.nil)) (fun i hg => ?_)
  obtain ⟨hg1, hg2⟩ := hg
  refine AWp.seq ?_
  refine AWp.seq ?_
  refine AWp.region ?_
  refine AList.c 4 rfl rfl rfl (OpJ.move rfl rfl) ?_
  refine AList.c 5 rfl rfl rfl (OpJ.move rfl rfl) ?_
  refine AList.c 6 rfl rfl rfl (OpJ.lenSlice rfl rfl sl39 rfl) ?_
  refine AList.c 7 rfl rfl rfl (OpJ.lss rfl rfl rfl) ?_
  refine AList.nil ?_
  refine AWp.cond _ rfl (fun hc0 => ?_) (fun hc0 => ?_)
  · skip
    have hk0 : i < l.length := by have h := of_decide_eq_true hc0; omega
    refine AWp.skip ?_
    refine AWp.seq ?_
    refine AWp.block ?_
    refine AWp.seq ?_
    refine AWp.region ?_
    refine AList.c 10 rfl rfl rfl (OpJ.move rfl rfl) ?_
    refine AList.c 11 rfl rfl rfl (OpJ.move rfl rfl) ?_
    refine AList.c 12 rfl rfl rfl (OpJ.indexG (g := ld l) (fun _ h => ld_get h) rfl rfl rfl sl39 el39 rfl (fun _ => rfl) (by decide) hk0) ?_
    refine AList.c 13 rfl rfl rfl (OpJ.load rfl rfl ty28 rfl) ?_
    refine AList.c 14 rfl rfl rfl (OpJ.callP (rleads_ok (ld l i) (hs _ (ld_mem hk0))) rfl rfl rfl rfl rf29) ?_
    refine AList.c 15 rfl rfl rfl (OpJ.not_ rfl rfl) ?_
    refine AList.nil ?_
    refine AWp.cond _ rfl (fun hc1 => ?_) (fun hc1 => ?_)
    · skip
      have hst : ldB (ld l i) = false := by simpa using hc1
      refine AWp.seq ?_
      refine AWp.region ?_
      refine AList.c 2 rfl rfl rfl (OpJ.assign rfl rfl) ?_
      refine AList.nil ?_
      refine AWp.ret ?_
      refine Fin.oneE rfl rfl ?_
      rw [all_false (ld_mem hk0) hst]
    · skip
      have hst : ldB (ld l i) = true := by simpa using hc1
      refine AWp.skip ?_
      refine AWp.region ?_
      refine AList.c 8 rfl rfl rfl (OpJ.move rfl rfl) ?_
      refine AList.c 9 rfl rfl rfl (OpJ.add rfl rfl rfl (i64ok ?_)) ?_
      · omega
      refine AList.c 3 rfl rfl rfl (OpJ.assign rfl rfl) ?_
      refine AList.nil ?_
      refine ⟨i + 1, ?_, ?_, ?_⟩
      · refine ⟨by omega, fun j hj => ?_⟩
        rcases Nat.lt_succ_iff_lt_or_eq.1 hj with h1 | rfl
        · exact hg2 j h1
        · exact hst
      · omega
      exact To.done [] rfl (by repeat (first | exact Sub.nil | refine Sub.cons rfl ?_)) rfl
  · skip
    obtain rfl : i = l.length := by have h := of_decide_eq_false hc0; omega
    refine AWp.exit ?_
    refine AWp.seq ?_
    refine AWp.region ?_
    refine AList.c 2 rfl rfl rfl (OpJ.assign rfl rfl) ?_
    refine AList.nil ?_
    refine AWp.ret ?_
    refine Fin.oneE rfl rfl ?_
    rw [List.all_eq_true.2 (fun x hx => by obtain ⟨j, hj, rfl⟩ := List.getElem_of_mem hx; rw [ld_get hj]; exact hg2 j hj)]
theorem up_ok (t u : Int) (ht : 0 ≤ t) (ht2 : t ≤ 1000000000000000) (hu : 1 ≤ u) (hu2 : u ≤ 1000000000000000) : Pure Try.prog 94 [.agg [.int .i64 t, .int .i64 u]] (.int .i64 (upI t u)) := by
  have q := divB (a := t + u - 1) (b := u) (by omega) hu
  refine Pure.start (N := 12) Try.func94 rfl rfl (Nat.le_of_ble_eq_true rfl) ?_
  refine AWp.seq ?_
  refine AWp.region ?_
  refine AList.c 1 rfl rfl rfl (OpJ.boxImm rfl rfl rfl) ?_
  refine AList.c 2 rfl rfl rfl (OpJ.assign rfl rfl) ?_
  refine AList.nil ?_
  refine AWp.seq ?_
  refine AWp.region ?_
  refine AList.c 3 rfl rfl rfl (OpJ.fieldAddr rfl rfl fd154_0 rfl) ?_
  refine AList.c 4 rfl rfl rfl (OpJ.load rfl rfl ty3 rfl) ?_
  refine AList.c 5 rfl rfl rfl (OpJ.fieldAddr rfl rfl fd154_1 rfl) ?_
  refine AList.c 6 rfl rfl rfl (OpJ.load rfl rfl ty3 rfl) ?_
  refine AList.c 7 rfl rfl rfl (OpJ.add rfl rfl rfl (i64ok ?_)) ?_
  · omega
  refine AList.c 8 rfl rfl rfl (OpJ.sub_ rfl rfl rfl (i64ok ?_)) ?_
  · omega
  refine AList.c 9 rfl rfl rfl (OpJ.fieldAddr rfl rfl fd154_1 rfl) ?_
  refine AList.c 10 rfl rfl rfl (OpJ.load rfl rfl ty3 rfl) ?_
  refine AList.c 11 rfl rfl rfl (OpJ.quo (m := (t + u - 1) / u) rfl rfl rfl (by omega) ((i64ok (by rw [q.1]; omega)).trans q.1)) ?_
  refine AList.c 2 rfl rfl rfl (OpJ.assign rfl rfl) ?_
  refine AList.nil ?_
  refine AWp.ret ?_
  exact Fin.one rfl (rfl)
theorem down_ok (t u : Int) (ht : 0 ≤ t) (ht2 : t ≤ 1000000000000000) (hu : 1 ≤ u) (hu2 : u ≤ 1000000000000000) : Pure Try.prog 95 [.agg [.int .i64 t, .int .i64 u]] (.int .i64 (dnI t u)) := by
  have q := divB (a := t) (b := u) (by omega) hu
  refine Pure.start (N := 8) Try.func95 rfl rfl (Nat.le_of_ble_eq_true rfl) ?_
  refine AWp.seq ?_
  refine AWp.region ?_
  refine AList.c 1 rfl rfl rfl (OpJ.boxImm rfl rfl rfl) ?_
  refine AList.c 2 rfl rfl rfl (OpJ.assign rfl rfl) ?_
  refine AList.nil ?_
  refine AWp.seq ?_
  refine AWp.region ?_
  refine AList.c 3 rfl rfl rfl (OpJ.fieldAddr rfl rfl fd154_0 rfl) ?_
  refine AList.c 4 rfl rfl rfl (OpJ.load rfl rfl ty3 rfl) ?_
  refine AList.c 5 rfl rfl rfl (OpJ.fieldAddr rfl rfl fd154_1 rfl) ?_
  refine AList.c 6 rfl rfl rfl (OpJ.load rfl rfl ty3 rfl) ?_
  refine AList.c 7 rfl rfl rfl (OpJ.quo (m := t / u) rfl rfl rfl (by omega) ((i64ok (by rw [q.1]; omega)).trans q.1)) ?_
  refine AList.c 2 rfl rfl rfl (OpJ.assign rfl rfl) ?_
  refine AList.nil ?_
  refine AWp.ret ?_
  exact Fin.one rfl (rfl)
theorem rup_ok (t u : Int) (ht : 0 ≤ t) (ht2 : t ≤ 1000000000000000) (hu : 1 ≤ u) (hu2 : u ≤ 1000000000000000) : Pure Try.prog 64 [.agg [.int .i64 t, .int .i64 u]] (.int .i64 (upI t u)) := by
  have q := divB (a := t + u - 1) (b := u) (by omega) hu
  refine Pure.start (N := 12) Try.func64 rfl rfl (Nat.le_of_ble_eq_true rfl) ?_
  refine AWp.seq ?_
  refine AWp.region ?_
  refine AList.c 1 rfl rfl rfl (OpJ.boxImm rfl rfl rfl) ?_
  refine AList.c 2 rfl rfl rfl (OpJ.assign rfl rfl) ?_
  refine AList.nil ?_
  refine AWp.seq ?_
  refine AWp.region ?_
  refine AList.c 3 rfl rfl rfl (OpJ.fieldAddr rfl rfl fd119_0 rfl) ?_
  refine AList.c 4 rfl rfl rfl (OpJ.load rfl rfl ty3 rfl) ?_
  refine AList.c 5 rfl rfl rfl (OpJ.fieldAddr rfl rfl fd119_1 rfl) ?_
  refine AList.c 6 rfl rfl rfl (OpJ.load rfl rfl ty3 rfl) ?_
  refine AList.c 7 rfl rfl rfl (OpJ.add rfl rfl rfl (i64ok ?_)) ?_
  · omega
  refine AList.c 8 rfl rfl rfl (OpJ.sub_ rfl rfl rfl (i64ok ?_)) ?_
  · omega
  refine AList.c 9 rfl rfl rfl (OpJ.fieldAddr rfl rfl fd119_1 rfl) ?_
  refine AList.c 10 rfl rfl rfl (OpJ.load rfl rfl ty3 rfl) ?_
  refine AList.c 11 rfl rfl rfl (OpJ.quo (m := (t + u - 1) / u) rfl rfl rfl (by omega) ((i64ok (by rw [q.1]; omega)).trans q.1)) ?_
  refine AList.c 2 rfl rfl rfl (OpJ.assign rfl rfl) ?_
  refine AList.nil ?_
  refine AWp.ret ?_
  exact Fin.one rfl (rfl)
theorem rdown_ok (t u : Int) (ht : 0 ≤ t) (ht2 : t ≤ 1000000000000000) (hu : 1 ≤ u) (hu2 : u ≤ 1000000000000000) : Pure Try.prog 65 [.agg [.int .i64 t, .int .i64 u]] (.int .i64 (dnI t u)) := by
  have q := divB (a := t) (b := u) (by omega) hu
  refine Pure.start (N := 8) Try.func65 rfl rfl (Nat.le_of_ble_eq_true rfl) ?_
  refine AWp.seq ?_
  refine AWp.region ?_
  refine AList.c 1 rfl rfl rfl (OpJ.boxImm rfl rfl rfl) ?_
  refine AList.c 2 rfl rfl rfl (OpJ.assign rfl rfl) ?_
  refine AList.nil ?_
  refine AWp.seq ?_
  refine AWp.region ?_
  refine AList.c 3 rfl rfl rfl (OpJ.fieldAddr rfl rfl fd119_0 rfl) ?_
  refine AList.c 4 rfl rfl rfl (OpJ.load rfl rfl ty3 rfl) ?_
  refine AList.c 5 rfl rfl rfl (OpJ.fieldAddr rfl rfl fd119_1 rfl) ?_
  refine AList.c 6 rfl rfl rfl (OpJ.load rfl rfl ty3 rfl) ?_
  refine AList.c 7 rfl rfl rfl (OpJ.quo (m := t / u) rfl rfl rfl (by omega) ((i64ok (by rw [q.1]; omega)).trans q.1)) ?_
  refine AList.c 2 rfl rfl rfl (OpJ.assign rfl rfl) ?_
  refine AList.nil ?_
  refine AWp.ret ?_
  exact Fin.one rfl (rfl)
theorem reached_ok (c : List Tnt) (g cl : Int) (hc : okC c) (hg : 1 ≤ g) (hg2 : g ≤ 1073741824) (hl : 0 ≤ cl) (hl2 : cl ≤ 1073741824) (i : Nat) (hi : i + 1 < c.length) : Pure Try.prog 96 [(.agg [curV c, .int .i64 g, .int .i64 cl]), .int .i64 (i : Int)] (.bool (decide (1000 * g ≤ (tn c (i + 1)).r * (g + cl)))) := by
  have h8 := hc.1
  have hr := okC_r hc hi
  have hm := mulB (a := (tn c (i + 1)).r) (b := g + cl) (A := 1000) (B := 2147483648) hr.1 hr.2 (by omega) (by omega)
  refine Pure.start (N := 22) Try.func96 rfl rfl (Nat.le_of_ble_eq_true rfl) ?_
  refine AWp.seq ?_
  refine AWp.region ?_
  refine AList.c 2 rfl rfl rfl (OpJ.boxImm rfl rfl rfl) ?_
  refine AList.c 4 rfl rfl rfl (OpJ.assign rfl rfl) ?_
  refine AList.nil ?_
  refine AWp.seq ?_
  refine AWp.regionDraw 18 mixed (by kernel_rfl) (by decide) ?_
  refine AQuiet.cons 5 rfl rfl rfl (OpJ.fieldAddr rfl rfl fd156_0 rfl) ?_
  refine AQuiet.cons 6 rfl rfl rfl (OpJ.load rfl rfl ty22 rfl) ?_
  refine AQuiet.cons 7 rfl rfl rfl (OpJ.move rfl rfl) ?_
  refine AQuiet.cons 8 rfl rfl rfl (OpJ.add (m := ((i + 1 : Nat) : Int)) rfl rfl rfl ((i64ok ?_).trans ?_)) ?_
  · omega
  · omega
  refine AQuiet.cons 9 rfl rfl rfl (OpJ.indexG (g := tn c) (fun _ h => tn_get h) rfl rfl rfl sl22 el22 rfl (fun _ => rfl) (by decide) hi) ?_
  refine AQuiet.cons 10 rfl rfl rfl (OpJ.fieldAddr rfl rfl fd84_0 rfl) ?_
  refine AQuiet.cons 11 rfl rfl rfl (OpJ.load rfl rfl ty3 rfl) ?_
  refine AQuiet.cons 12 rfl rfl rfl (OpJ.fieldAddr rfl rfl fd156_1 rfl) ?_
  refine AQuiet.cons 13 rfl rfl rfl (OpJ.load rfl rfl ty3 rfl) ?_
  refine AQuiet.cons 14 rfl rfl rfl (OpJ.fieldAddr rfl rfl fd156_2 rfl) ?_
  refine AQuiet.cons 15 rfl rfl rfl (OpJ.load rfl rfl ty3 rfl) ?_
  refine AQuiet.cons 16 rfl rfl rfl (OpJ.add rfl rfl rfl (i64ok ?_)) ?_
  · omega
  refine AQuiet.cons 17 rfl rfl rfl (OpJ.mul rfl rfl rfl (i64ok ?_)) ?_
  · omega
  refine AQuiet.cons 18 rfl rfl rfl (OpJ.fieldAddr rfl rfl fd156_1 rfl) ?_
  refine AQuiet.cons 19 rfl rfl rfl (OpJ.load rfl rfl ty3 rfl) ?_
  refine AQuiet.cons 20 rfl rfl rfl (OpJ.mul rfl rfl rfl (i64ok ?_)) ?_
  · omega
  refine AQuiet.cons 21 rfl rfl rfl (OpJ.geq rfl rfl rfl) ?_
  refine AQuiet.cons 4 rfl rfl rfl (OpJ.assign rfl rfl) ?_
  refine AQuiet.nil ?_
  refine AList.nil ?_
  refine AWp.ret ?_
  exact Fin.one rfl (rfl)
theorem search_ok (n r : Nat) (fn : Fn) (fi ca : List PV) (p : Nat → Bool) (hn : n ≤ 140737488355328) (hr : r ≤ n) (h1 : ∀ i, i < r → p i = false) (h2 : ∀ i, r ≤ i → i < n → p i = true) (hf : ∀ i, i < n → FPure Try.prog (.func fn fi ca) [.int .i64 ((i : Nat) : Int)] (.bool (p i))) : Pure Try.prog 97 [.int .i64 (n : Int), .func fn fi ca] (.int .i64 (r : Int)) := by
  refine Pure.start (N := 26) Try.func97 rfl rfl (Nat.le_of_ble_eq_true rfl) ?_
  refine AWp.seq ?_
  refine AWp.region ?_
  refine AList.c 4 rfl rfl rfl (OpJ.assign rfl rfl) ?_
  refine AList.nil ?_
  refine AWp.seq ?_
  refine AWp.region ?_
  refine AList.c 8 rfl rfl rfl (OpJ.move rfl rfl) ?_
  refine AList.c 5 rfl rfl rfl (OpJ.assign rfl rfl) ?_
  refine AList.c 6 rfl rfl rfl (OpJ.assign rfl rfl) ?_
  refine AList.nil ?_
  refine AWp.seq ?_
  refine AWp.block ?_
  refine AWp.loopK [5, 6, 7, 9, 10, 11, 12, 13, 14, 15, 16, 17, 18, 19, 20, 21, 22, 23, 24] (fun g => [(5, .p (.int .i64 ((g.1 : Nat) : Int))), (6, .p (.int .i64 ((g.2 : Nat) : Int)))]) (fun g => g.1 ≤ r ∧ r ≤ g.2 ∧ g.2 ≤ n) (fun g => g.2 - g.1) (0, n) ⟨Nat.zero_le _, hr, Nat.le_refl _⟩ (Sub.cons rfl (Sub.cons rfl (Sub.nil))) (fun g hg => ?_)
  obtain ⟨i, j⟩ := g
  obtain ⟨hi, hj, hjn⟩ := hg
  dsimp only at hi hj hjn ⊢
  refine AWp.seq ?_
  refine AWp.seq ?_
  refine AWp.region ?_
  refine AList.c 9 rfl rfl rfl (OpJ.move rfl rfl) ?_
  refine AList.c 10 rfl rfl rfl (OpJ.move rfl rfl) ?_
  refine AList.c 11 rfl rfl rfl (OpJ.lss rfl rfl rfl) ?_
  refine AList.nil ?_
  refine AWp.cond _ rfl (fun hc0 => ?_) (fun hc0 => ?_)
  · skip
    have hij : i < j := by simp at hc0; omega
    have hf0 := hf ((i + j) / 2) (by omega)
    refine AWp.skip ?_
    refine AWp.block ?_
    refine AWp.seq ?_
    refine AWp.region ?_
    refine AList.c 12 rfl rfl rfl (OpJ.move rfl rfl) ?_
    refine AList.c 13 rfl rfl rfl (OpJ.move rfl rfl) ?_
    refine AList.c 14 rfl rfl rfl (OpJ.add rfl rfl rfl (i64ok ?_)) ?_
    · omega
    refine AList.c 15 rfl rfl rfl (OpJ.convInt rfl rfl (by rw [un3]; rfl) un159 (u64ok ?_)) ?_
    · omega
    refine AList.c 16 rfl rfl rfl (OpJ.shr (m := (((i + j) / 2 : Nat) : Int)) rfl rfl rfl (by decide) ?_) ?_
    · refine shr1.trans ?_; omega
    refine AList.c 17 rfl rfl rfl (OpJ.convInt rfl rfl (by rw [un159]; rfl) un3 (i64ok ?_)) ?_
    · omega
    refine AList.c 7 rfl rfl rfl (OpJ.assign rfl rfl) ?_
    refine AList.nil ?_
    refine AWp.seq ?_
    refine AWp.region ?_
    refine AList.c 18 rfl rfl rfl (OpJ.move rfl rfl) ?_
    refine AList.c 19 rfl rfl rfl (OpJ.move rfl rfl) ?_
    refine AList.c 20 rfl rfl rfl (OpJ.callF (hf0) rfl rfl rfl) ?_
    refine AList.c 21 rfl rfl rfl (OpJ.not_ rfl rfl) ?_
    refine AList.nil ?_
    refine AWp.cond _ rfl (fun hc1 => ?_) (fun hc1 => ?_)
    · skip
      have q1 : p ((i + j) / 2) = false := by simpa using hc1
      have q2 : (i + j) / 2 + 1 ≤ r := by rcases Nat.lt_or_ge ((i + j) / 2) r with h | h; { omega }; { have := h2 _ h (by omega); rw [q1] at this; cases this }
      refine AWp.region ?_
      refine AList.c 22 rfl rfl rfl (OpJ.move rfl rfl) ?_
      refine AList.c 23 rfl rfl rfl (OpJ.add rfl rfl rfl (i64ok ?_)) ?_
      · omega
      refine AList.c 5 rfl rfl rfl (OpJ.assign rfl rfl) ?_
      refine AList.nil ?_
      refine ⟨((i + j) / 2 + 1, j), ?_, ?_, ?_⟩
      · exact ⟨q2, hj, hjn⟩
      · dsimp only; omega
      exact To.done [] rfl (by repeat (first | exact Sub.nil | refine Sub.cons rfl ?_)) rfl
    · skip
      have q1 : p ((i + j) / 2) = true := by simpa using hc1
      have q2 : r ≤ (i + j) / 2 := by rcases Nat.lt_or_ge ((i + j) / 2) r with h | h; { have := h1 _ h; rw [q1] at this; cases this }; { omega }
      refine AWp.region ?_
      refine AList.c 24 rfl rfl rfl (OpJ.move rfl rfl) ?_
      refine AList.c 6 rfl rfl rfl (OpJ.assign rfl rfl) ?_
      refine AList.nil ?_
      refine ⟨(i, (i + j) / 2), ?_, ?_, ?_⟩
      · exact ⟨hi, q2, by dsimp only; omega⟩
      · dsimp only; omega
      exact To.done [] rfl (by repeat (first | exact Sub.nil | refine Sub.cons rfl ?_)) rfl
  · skip
    obtain rfl : i = r := by simp at hc0; omega
    refine AWp.exit ?_
    refine AWp.seq ?_
    refine AWp.region ?_
    refine AList.c 25 rfl rfl rfl (OpJ.move rfl rfl) ?_
    refine AList.c 4 rfl rfl rfl (OpJ.assign rfl rfl) ?_
    refine AList.nil ?_
    refine AWp.ret ?_
    refine Fin.oneE rfl rfl ?_
    rfl
theorem black_ok (c : List Tnt) (g cl : Int) (hc : okC c) (hg : 1 ≤ g) (hg2 : g ≤ 1073741824) (hl : 0 ≤ cl) (hl2 : cl ≤ 1073741824) : Pure Try.prog 93 [(.agg [curV c, .int .i64 g, .int .i64 cl])] (.agg [.int .i64 (topI c g cl), .int .i64 (undI c g cl)]) := by
  have h8 := hc.1
  have q := seg_ok hc hg hl
  obtain ⟨i, hi⟩ : ∃ i, i = seg c g (g + cl) := ⟨_, rfl⟩
  have hi1 : i + 1 < c.length := hi ▸ q.lt
  have w := frac_walk hc hg hg2 hl hl2 hi
  have w1 := w.p1
  have w2 := w.p2
  have w3 := w.p3
  have w4 := w.p4
  have w5 := w.p5
  have w6 := w.p6
  have w7 := w.p7
  have w8 := w.r
  have w9 := w.b
  refine Pure.start (N := 63) Try.func93 rfl rfl (Nat.le_of_ble_eq_true rfl) ?_
  refine AWp.seq ?_
  refine AWp.region ?_
  refine AList.c 1 rfl rfl rfl (OpJ.boxImm rfl rfl rfl) ?_
  refine AList.c 2 rfl rfl rfl (OpJ.allocOwn rfl zr154 rfl) ?_
  refine AList.nil ?_
  refine AWp.seq ?_
  refine AWp.region ?_
  refine AList.c 9 rfl rfl rfl (OpJ.fieldAddr rfl rfl fd156_1 rfl) ?_
  refine AList.c 10 rfl rfl rfl (OpJ.load rfl rfl ty3 rfl) ?_
  refine AList.c 11 rfl rfl rfl (OpJ.fieldAddr rfl rfl fd156_2 rfl) ?_
  refine AList.c 12 rfl rfl rfl (OpJ.load rfl rfl ty3 rfl) ?_
  refine AList.c 13 rfl rfl rfl (OpJ.add rfl rfl rfl (i64ok ?_)) ?_
  · omega
  refine AList.c 3 rfl rfl rfl (OpJ.assign rfl rfl) ?_
  refine AList.nil ?_
  refine AWp.seq ?_
  refine AWp.region ?_
  refine AList.c 14 rfl rfl rfl (OpJ.load rfl rfl ty156 rfl) ?_
  refine AList.c 15 rfl rfl rfl (OpJ.makeFunc rfl rfl rfl) ?_
  refine AList.c 4 rfl rfl rfl (OpJ.assign rfl rfl) ?_
  refine AList.nil ?_
  refine AWp.seq ?_
  refine AWp.region ?_
  refine AList.c 16 rfl rfl rfl (OpJ.fieldAddr rfl rfl fd156_0 rfl) ?_
  refine AList.c 17 rfl rfl rfl (OpJ.load rfl rfl ty22 rfl) ?_
  refine AList.c 18 rfl rfl rfl (OpJ.lenSlice rfl rfl sl22 rfl) ?_
  refine AList.c 19 rfl rfl rfl (OpJ.sub_ (m := ((c.length - 2 : Nat) : Int)) rfl rfl rfl ((i64ok ?_).trans ?_)) ?_
  · omega
  · omega
  refine AList.c 20 rfl rfl rfl (OpJ.move rfl rfl) ?_
  refine AList.c 21 rfl rfl rfl (OpJ.callP (search_ok (c.length - 2) i (.func 96) [(.agg [curV c, .int .i64 g, .int .i64 cl])] [] (fun i => decide (1000 * g ≤ (tn c (i + 1)).r * (g + cl))) (by omega) (by omega) (fun j hj => decide_eq_false (by have := q.bef j (hi ▸ hj); omega)) (fun j hj hj2 => decide_eq_true (q.aft j (hi ▸ hj) (by omega))) (fun j hj => ⟨96, [(.agg [curV c, .int .i64 g, .int .i64 cl]), .int .i64 (j : Int)], rfl, rf96, reached_ok c g cl hc hg hg2 hl hl2 j (by omega)⟩)) rfl rfl rfl rfl rf97) ?_
  refine AList.c 5 rfl rfl rfl (OpJ.assign rfl rfl) ?_
  refine AList.nil ?_
  refine AWp.seq ?_
  refine AWp.regionDrawG 14 2 [1, 2] [([], false), ([], false), ([], false), ([], false), ([], false), ([], false), ([], false), ([], false), ([], false), ([], false), ([], false), ([1], true), ([2], true), ([1], true)] mixed (by kernel_rfl) (by decide) (by kernel_rfl) rfl rfl ?_
  refine AQG.cons 22 rfl rfl rfl (fun _ => (OpJ.fieldAddr rfl rfl fd156_0 rfl)) rfl ?_
  refine AQG.cons 23 rfl rfl rfl (fun _ => (OpJ.load rfl rfl ty22 rfl)) rfl ?_
  refine AQG.cons 24 rfl rfl rfl (fun _ => (OpJ.move rfl rfl)) rfl ?_
  refine AQG.cons 25 rfl rfl rfl (fun _ => (OpJ.indexG (g := tn c) (fun _ h => tn_get h) rfl rfl rfl sl22 el22 rfl (fun _ => rfl) (by decide) (by omega))) rfl ?_
  refine AQG.cons 26 rfl rfl rfl (fun _ => (OpJ.load rfl rfl ty84 rfl)) rfl ?_
  refine AQG.cons 27 rfl rfl rfl (fun _ => (OpJ.fieldAddr rfl rfl fd156_0 rfl)) rfl ?_
  refine AQG.cons 28 rfl rfl rfl (fun _ => (OpJ.load rfl rfl ty22 rfl)) rfl ?_
  refine AQG.cons 29 rfl rfl rfl (fun _ => (OpJ.move rfl rfl)) rfl ?_
  refine AQG.cons 30 rfl rfl rfl (fun _ => (OpJ.add (m := ((i + 1 : Nat) : Int)) rfl rfl rfl ((i64ok ?_).trans ?_))) rfl ?_
  · omega
  · omega
  refine AQG.cons 31 rfl rfl rfl (fun _ => (OpJ.indexG (g := tn c) (fun _ h => tn_get h) rfl rfl rfl sl22 el22 rfl (fun _ => rfl) (by decide) hi1)) rfl ?_
  refine AQG.cons 32 rfl rfl rfl (fun _ => (OpJ.load rfl rfl ty84 rfl)) rfl ?_
  refine AQG.lay (v0 := .ptr 3 0) 6 1 rfl rfl rfl rfl rfl rfl rfl rfl (fun _ => (OpJ.allocOwn rfl zr84 rfl)) rfl rfl rfl ?_
  refine AQG.lay (v0 := .ptr 3 0) 7 2 rfl rfl rfl rfl rfl rfl rfl rfl (fun _ => (OpJ.allocOwn rfl zr84 rfl)) rfl rfl rfl ?_
  refine AQG.put 1 rfl rfl rfl rfl (fun _ => (OpJ.store rfl rfl rfl rfl rfl ty84 rfl rfl)) rfl rfl ?_
  refine AQG.nil ?_
  refine AList.c0 rfl rfl (OpJ.store rfl rfl rfl rfl rfl ty84 rfl rfl) ?_
  refine AList.nil ?_
  refine AWp.seq ?_
  refine AWp.region ?_
  refine AList.c 33 rfl rfl rfl (OpJ.fieldAddr rfl rfl fd84_0 rfl) ?_
  refine AList.c 34 rfl rfl rfl (OpJ.load rfl rfl ty3 rfl) ?_
  refine AList.c 35 rfl rfl rfl (OpJ.fieldAddr rfl rfl fd84_0 rfl) ?_
  refine AList.c 36 rfl rfl rfl (OpJ.load rfl rfl ty3 rfl) ?_
  refine AList.c 37 rfl rfl rfl (OpJ.sub_ rfl rfl rfl (i64ok ?_)) ?_
  · omega
  refine AList.c 8 rfl rfl rfl (OpJ.assign rfl rfl) ?_
  refine AList.nil ?_
  refine AWp.seq ?_
  refine AWp.region ?_
  refine AList.c 38 rfl rfl rfl (OpJ.fieldAddr rfl rfl fd84_1 rfl) ?_
  refine AList.c 39 rfl rfl rfl (OpJ.load rfl rfl ty3 rfl) ?_
  refine AList.c 40 rfl rfl rfl (OpJ.move rfl rfl) ?_
  refine AList.c 41 rfl rfl rfl (OpJ.mul rfl rfl rfl (i64ok ?_)) ?_
  · omega
  refine AList.c 42 rfl rfl rfl (OpJ.move rfl rfl) ?_
  refine AList.c 43 rfl rfl rfl (OpJ.mul rfl rfl rfl (i64ok ?_)) ?_
  · omega
  refine AList.c 44 rfl rfl rfl (OpJ.fieldAddr rfl rfl fd84_1 rfl) ?_
  refine AList.c 45 rfl rfl rfl (OpJ.load rfl rfl ty3 rfl) ?_
  refine AList.c 46 rfl rfl rfl (OpJ.fieldAddr rfl rfl fd84_1 rfl) ?_
  refine AList.c 47 rfl rfl rfl (OpJ.load rfl rfl ty3 rfl) ?_
  refine AList.c 48 rfl rfl rfl (OpJ.sub_ rfl rfl rfl (i64ok ?_)) ?_
  · omega
  refine AList.c 49 rfl rfl rfl (OpJ.fieldAddr rfl rfl fd156_1 rfl) ?_
  refine AList.c 50 rfl rfl rfl (OpJ.load rfl rfl ty3 rfl) ?_
  refine AList.c 51 rfl rfl rfl (OpJ.mul rfl rfl rfl (i64ok ?_)) ?_
  · omega
  refine AList.c 52 rfl rfl rfl (OpJ.fieldAddr rfl rfl fd84_0 rfl) ?_
  refine AList.c 53 rfl rfl rfl (OpJ.load rfl rfl ty3 rfl) ?_
  refine AList.c 54 rfl rfl rfl (OpJ.move rfl rfl) ?_
  refine AList.c 55 rfl rfl rfl (OpJ.mul rfl rfl rfl (i64ok ?_)) ?_
  · omega
  refine AList.c 56 rfl rfl rfl (OpJ.sub_ rfl rfl rfl (i64ok ?_)) ?_
  · omega
  refine AList.c 57 rfl rfl rfl (OpJ.mul rfl rfl rfl (i64ok ?_)) ?_
  · omega
  refine AList.c 58 rfl rfl rfl (OpJ.add rfl rfl rfl (i64ok ?_)) ?_
  · omega
  refine AList.c 59 rfl rfl rfl (OpJ.move rfl rfl) ?_
  refine AList.c 60 rfl rfl rfl (OpJ.move rfl rfl) ?_
  refine AList.c 61 rfl rfl rfl (OpJ.mul rfl rfl rfl (i64ok ?_)) ?_
  · omega
  refine AList.c 62 rfl rfl rfl (OpJ.build rfl bd154 rfl rfl) ?_
  refine AList.c0 rfl rfl (OpJ.store rfl rfl rfl rfl rfl ty154 rfl rfl) ?_
  refine AList.nil ?_
  refine AWp.ret ?_
  subst hi
  exact Fin.one rfl (⟨_, _, _, rfl, ty154, rfl⟩)
theorem at_ok (c : List Tnt) (γ cl : Int) (hc : okC c) (hg : 1 ≤ γ) (hg2 : γ ≤ 1073741824) (hl : 0 ≤ cl) (hl2 : cl ≤ 1073741824) : Pure Try.prog 63 [curV c, .int .i64 γ, .int .i64 cl] (.agg [.int .i64 (topI c γ cl), .int .i64 (undI c γ cl)]) := by
  have h8 := hc.1
  have q := seg_ok hc hg hl
  refine Pure.start (N := 74) Try.func63 rfl rfl (Nat.le_of_ble_eq_true rfl) ?_
  refine AWp.seq ?_
  refine AWp.region ?_
  refine AList.c 6 rfl rfl rfl (OpJ.allocOwn rfl zr119 rfl) ?_
  refine AList.nil ?_
  refine AWp.seq ?_
  refine AWp.region ?_
  refine AList.c 13 rfl rfl rfl (OpJ.move rfl rfl) ?_
  refine AList.c 14 rfl rfl rfl (OpJ.move rfl rfl) ?_
  refine AList.c 15 rfl rfl rfl (OpJ.add rfl rfl rfl (i64ok ?_)) ?_
  · omega
  refine AList.c 7 rfl rfl rfl (OpJ.assign rfl rfl) ?_
  refine AList.nil ?_
  refine AWp.seq ?_
  refine AWp.region ?_
  refine AList.c 8 rfl rfl rfl (OpJ.assign rfl rfl) ?_
  refine AList.nil ?_
  refine AWp.seq ?_
  refine AWp.block ?_
  refine AWp.loopHL [0, 1, 6, 7, 9, 10, 11, 12, 35, 36, 37, 38, 39, 40, 41, 42, 43, 44, 45, 46, 47, 48, 49, 50, 51, 52, 53, 54, 55, 56, 57, 58, 59, 60, 61, 62, 63, 64, 65, 66, 67, 68, 69, 70, 71, 72, 73] (fun g => [(8, .p (.int .i64 ((g + 1 : Nat) : Int)))]) (fun g => [.cells [.p (.int .i64 0), .p (.int .i64 0)] 119]) (fun g => g ≤ seg c γ (γ + cl)) (fun g => c.length - g) 0 (Nat.zero_le _) (To.sub (Sub.chk (Sub.cons rfl (Sub.nil)))) (fun j hh => ?_)
  have hqlt := q.lt
  have hr := okC_r hc (show j + 1 < c.length by omega)
  have hm := mulB (a := (tn c (j + 1)).r) (b := γ + cl) (A := 1000) (B := 2147483648) hr.1 hr.2 (by omega) (by omega)
  refine AWp.seq ?_
  refine AWp.seq ?_
  refine AWp.region ?_
  refine AList.c 16 rfl rfl rfl (OpJ.move rfl rfl) ?_
  refine AList.c 17 rfl rfl rfl (OpJ.add (m := ((j + 1 + 1 : Nat) : Int)) rfl rfl rfl ((i64ok ?_).trans ?_)) ?_
  · omega
  · omega
  refine AList.c 18 rfl rfl rfl (OpJ.move rfl rfl) ?_
  refine AList.c 19 rfl rfl rfl (OpJ.lenSlice rfl rfl sl22 rfl) ?_
  refine AList.c 20 rfl rfl rfl (OpJ.lss rfl rfl rfl) ?_
  refine AList.c 21 rfl rfl rfl (OpJ.move rfl rfl) ?_
  refine AList.g 22 21 rfl rfl rfl rfl rfl rfl rfl [(0, _)] (fun h => And.intro (.inl rfl) (trivial)) (fun h => (OpJ.move rfl rfl)) ?_
  refine AList.g 23 21 rfl rfl rfl rfl rfl rfl rfl [(8, _)] (fun h => And.intro (.inl rfl) (trivial)) (fun h => (OpJ.move rfl rfl)) ?_
  refine AList.g 24 21 rfl rfl rfl rfl rfl rfl rfl [(22, _), (23, _)] (fun h => And.intro (.inr ⟨_, rfl, h⟩) (And.intro (.inr ⟨_, rfl, h⟩) (trivial))) (fun h => (OpJ.indexG (g := tn c) (fun _ h => tn_get h) rfl rfl rfl sl22 el22 rfl (fun _ => rfl) (by decide) (by simp at h; omega))) ?_
  refine AList.g 25 21 rfl rfl rfl rfl rfl rfl rfl [(24, _)] (fun h => And.intro (.inr ⟨_, rfl, h⟩) (trivial)) (fun h => (OpJ.fieldAddr rfl rfl fd84_0 rfl)) ?_
  refine AList.g 26 21 rfl rfl rfl rfl rfl rfl rfl [(25, _)] (fun h => And.intro (.inr ⟨_, rfl, h⟩) (trivial)) (fun h => (OpJ.load rfl rfl ty3 rfl)) ?_
  refine AList.g 27 21 rfl rfl rfl rfl rfl rfl rfl [(7, _)] (fun h => And.intro (.inl rfl) (trivial)) (fun h => (OpJ.move rfl rfl)) ?_
  refine AList.g 28 21 rfl rfl rfl rfl rfl rfl rfl [(26, _), (27, _)] (fun h => And.intro (.inr ⟨_, rfl, h⟩) (And.intro (.inr ⟨_, rfl, h⟩) (trivial))) (fun h => (OpJ.mul rfl rfl rfl (i64ok (by omega)))) ?_
  refine AList.g 29 21 rfl rfl rfl rfl rfl rfl rfl [(1, _)] (fun h => And.intro (.inl rfl) (trivial)) (fun h => (OpJ.move rfl rfl)) ?_
  refine AList.g 30 21 rfl rfl rfl rfl rfl rfl rfl [(29, _)] (fun h => And.intro (.inr ⟨_, rfl, h⟩) (trivial)) (fun h => (OpJ.mul rfl rfl rfl (i64ok (by omega)))) ?_
  refine AList.g 31 21 rfl rfl rfl rfl rfl rfl rfl [(28, _), (30, _)] (fun h => And.intro (.inr ⟨_, rfl, h⟩) (And.intro (.inr ⟨_, rfl, h⟩) (trivial))) (fun h => (OpJ.lss rfl rfl rfl)) ?_
  refine AList.c 32 rfl rfl rfl (OpJ.and_ rfl rfl rfl ?_) ?_
  · first | (intro h; rw [h]; rfl) | (intro h; simp_all)
  refine AList.nil ?_
  refine AWp.cond _ rfl (fun hc0 => ?_) (fun hc0 => ?_)
  · skip
    have hlt : j < seg c γ (γ + cl) := by
      simp at hc0
      rcases Nat.lt_or_ge j (seg c γ (γ + cl)) with h | h
      · exact h
      · have := q.aft j h (by omega); omega
    refine AWp.skip ?_
    refine AWp.block ?_
    refine AWp.region ?_
    refine AList.c 33 rfl rfl rfl (OpJ.move rfl rfl) ?_
    refine AList.c 34 rfl rfl rfl (OpJ.add rfl rfl rfl (i64ok ?_)) ?_
    · omega
    refine AList.c 8 rfl rfl rfl (OpJ.assign rfl rfl) ?_
    refine AList.nil ?_
    refine ⟨j + 1, ?_, ?_, ?_⟩
    · omega
    · omega
    exact To.done [0] rfl (by repeat (first | exact Sub.nil | refine Sub.cons rfl ?_)) rfl
  · skip
    obtain ⟨i, hi⟩ : ∃ i, i = seg c γ (γ + cl) := ⟨_, rfl⟩
    obtain rfl : j = i := by
      rw [hi]
      rcases Nat.lt_or_ge j (seg c γ (γ + cl)) with h | h
      · have h1 := q.bef j h
        have := q.lt
        simp at hc0
        have := hc0 (by omega)
        omega
      · omega
    have hi1 : j + 1 < c.length := hi ▸ q.lt
    have w := frac_walk hc hg hg2 hl hl2 hi
    have w1 := w.p1
    have w2 := w.p2
    have w3 := w.p3
    have w4 := w.p4
    have w5 := w.p5
    have w6 := w.p6
    have w7 := w.p7
    have w8 := w.r
    have w9 := w.b
    refine AWp.exit ?_
    refine AWp.seq ?_
    refine AWp.regionDrawG 12 2 [1, 2] [([], false), ([], false), ([], false), ([], false), ([], false), ([], false), ([], false), ([], false), ([], false), ([1], true), ([2], true), ([1], true)] mixed (by kernel_rfl) (by decide) (by kernel_rfl) rfl rfl ?_
    refine AQG.cons 35 rfl rfl rfl (fun _ => (OpJ.move rfl rfl)) rfl ?_
    refine AQG.cons 36 rfl rfl rfl (fun _ => (OpJ.move rfl rfl)) rfl ?_
    refine AQG.cons 37 rfl rfl rfl (fun _ => (OpJ.sub_ (m := ((j : Nat) : Int)) rfl rfl rfl ((i64ok ?_).trans ?_))) rfl ?_
    · omega
    · omega
    refine AQG.cons 38 rfl rfl rfl (fun _ => (OpJ.indexG (g := tn c) (fun _ h => tn_get h) rfl rfl rfl sl22 el22 rfl (fun _ => rfl) (by decide) (by omega))) rfl ?_
    refine AQG.cons 39 rfl rfl rfl (fun _ => (OpJ.load rfl rfl ty84 rfl)) rfl ?_
    refine AQG.cons 40 rfl rfl rfl (fun _ => (OpJ.move rfl rfl)) rfl ?_
    refine AQG.cons 41 rfl rfl rfl (fun _ => (OpJ.move rfl rfl)) rfl ?_
    refine AQG.cons 42 rfl rfl rfl (fun _ => (OpJ.indexG (g := tn c) (fun _ h => tn_get h) rfl rfl rfl sl22 el22 rfl (fun _ => rfl) (by decide) hi1)) rfl ?_
    refine AQG.cons 43 rfl rfl rfl (fun _ => (OpJ.load rfl rfl ty84 rfl)) rfl ?_
    refine AQG.lay (v0 := .ptr 3 0) 9 1 rfl rfl rfl rfl rfl rfl rfl rfl (fun _ => (OpJ.allocOwn rfl zr84 rfl)) rfl rfl rfl ?_
    refine AQG.lay (v0 := .ptr 3 0) 10 2 rfl rfl rfl rfl rfl rfl rfl rfl (fun _ => (OpJ.allocOwn rfl zr84 rfl)) rfl rfl rfl ?_
    refine AQG.put 1 rfl rfl rfl rfl (fun _ => (OpJ.store rfl rfl rfl rfl rfl ty84 rfl rfl)) rfl rfl ?_
    refine AQG.nil ?_
    refine AList.c0 rfl rfl (OpJ.store rfl rfl rfl rfl rfl ty84 rfl rfl) ?_
    refine AList.nil ?_
    refine AWp.seq ?_
    refine AWp.region ?_
    refine AList.c 44 rfl rfl rfl (OpJ.fieldAddr rfl rfl fd84_0 rfl) ?_
    refine AList.c 45 rfl rfl rfl (OpJ.load rfl rfl ty3 rfl) ?_
    refine AList.c 46 rfl rfl rfl (OpJ.fieldAddr rfl rfl fd84_0 rfl) ?_
    refine AList.c 47 rfl rfl rfl (OpJ.load rfl rfl ty3 rfl) ?_
    refine AList.c 48 rfl rfl rfl (OpJ.sub_ rfl rfl rfl (i64ok ?_)) ?_
    · omega
    refine AList.c 11 rfl rfl rfl (OpJ.assign rfl rfl) ?_
    refine AList.nil ?_
    refine AWp.seq ?_
    refine AWp.region ?_
    refine AList.c 49 rfl rfl rfl (OpJ.move rfl rfl) ?_
    refine AList.c 50 rfl rfl rfl (OpJ.mul rfl rfl rfl (i64ok ?_)) ?_
    · omega
    refine AList.c 51 rfl rfl rfl (OpJ.fieldAddr rfl rfl fd84_0 rfl) ?_
    refine AList.c 52 rfl rfl rfl (OpJ.load rfl rfl ty3 rfl) ?_
    refine AList.c 53 rfl rfl rfl (OpJ.move rfl rfl) ?_
    refine AList.c 54 rfl rfl rfl (OpJ.mul rfl rfl rfl (i64ok ?_)) ?_
    · omega
    refine AList.c 55 rfl rfl rfl (OpJ.sub_ rfl rfl rfl (i64ok ?_)) ?_
    · omega
    refine AList.c 12 rfl rfl rfl (OpJ.assign rfl rfl) ?_
    refine AList.nil ?_
    refine AWp.seq ?_
    refine AWp.region ?_
    refine AList.c 56 rfl rfl rfl (OpJ.fieldAddr rfl rfl fd84_1 rfl) ?_
    refine AList.c 57 rfl rfl rfl (OpJ.load rfl rfl ty3 rfl) ?_
    refine AList.c 58 rfl rfl rfl (OpJ.move rfl rfl) ?_
    refine AList.c 59 rfl rfl rfl (OpJ.mul rfl rfl rfl (i64ok ?_)) ?_
    · omega
    refine AList.c 60 rfl rfl rfl (OpJ.move rfl rfl) ?_
    refine AList.c 61 rfl rfl rfl (OpJ.mul rfl rfl rfl (i64ok ?_)) ?_
    · omega
    refine AList.c 62 rfl rfl rfl (OpJ.fieldAddr rfl rfl fd84_1 rfl) ?_
    refine AList.c 63 rfl rfl rfl (OpJ.load rfl rfl ty3 rfl) ?_
    refine AList.c 64 rfl rfl rfl (OpJ.fieldAddr rfl rfl fd84_1 rfl) ?_
    refine AList.c 65 rfl rfl rfl (OpJ.load rfl rfl ty3 rfl) ?_
    refine AList.c 66 rfl rfl rfl (OpJ.sub_ rfl rfl rfl (i64ok ?_)) ?_
    · omega
    refine AList.c 67 rfl rfl rfl (OpJ.move rfl rfl) ?_
    refine AList.c 68 rfl rfl rfl (OpJ.mul rfl rfl rfl (i64ok ?_)) ?_
    · omega
    refine AList.c 69 rfl rfl rfl (OpJ.add rfl rfl rfl (i64ok ?_)) ?_
    · omega
    refine AList.c 70 rfl rfl rfl (OpJ.move rfl rfl) ?_
    refine AList.c 71 rfl rfl rfl (OpJ.move rfl rfl) ?_
    refine AList.c 72 rfl rfl rfl (OpJ.mul rfl rfl rfl (i64ok ?_)) ?_
    · omega
    refine AList.c 73 rfl rfl rfl (OpJ.build rfl bd119 rfl rfl) ?_
    refine AList.c0 rfl rfl (OpJ.store rfl rfl rfl rfl rfl ty119 rfl rfl) ?_
    refine AList.nil ?_
    refine AWp.ret ?_
    subst hi
    exact Fin.one rfl (⟨_, _, _, rfl, ty119, rfl⟩)
end Go.Proofs.Ythiapodcippnoaa
