/-
  How black leads can be, in both texts.
-/
import Derived.Test.YthiapodcippnoaaSd2
set_option linter.unusedVariables false
set_option maxRecDepth 100000
set_option maxHeartbeats 4000000
set_option linter.unusedSimpArgs false
namespace Go.Proofs.Ythiapodcippnoaa
open Go.AF
theorem holds_ok (c : List Tnt) (l : Lds) (n : Int) (hc : okC c) (hl : OkL l) (n0 : -1000 ≤ n) (n1 : n ≤ 1000) : Pure Try.prog 33 [curV c, ldV l, .int .i64 n] (.bool (decide (holdsI c l n))) := by
  have lg := hl.g
  have lc := hl.c
  have lt := hl.t
  have l6 := hl.n
  have f1 := frac_ok hc (g := l.glo) (cl := l.chi) (by omega) (by omega) (by omega) (by omega)
  have f2 := frac_ok hc (g := l.ghi) (cl := l.clo) (by omega) (by omega) (by omega) (by omega)
  have fu1 := f1.u
  have fu2 := f2.u
  have ft1 := f1.t
  have ft2 := f2.t
  have m1 := mulN (a := n + l.tol) (b := undI c l.glo l.chi) (A := 1200) (B := 2147483648000) (by omega) (by omega) (by omega) (by omega)
  have m2 := mulN (a := n) (b := undI c l.ghi l.clo) (A := 1000) (B := 2147483648000) (by omega) (by omega) (by omega) (by omega)
  have m3 := mulN (a := l.tol) (b := undI c l.ghi l.clo) (A := 1000) (B := 2147483648000) (by omega) (by omega) (by omega) (by omega)
  refine Pure.start (N := 86) Try.func33 rfl rfl (Nat.le_of_ble_eq_true rfl) ?_
  refine AWp.seq ?_
  refine AWp.region ?_
  refine AList.c 4 rfl rfl rfl (OpJ.boxImm rfl rfl rfl) ?_
  refine AList.c 6 rfl rfl rfl (OpJ.assign rfl rfl) ?_
  refine AList.nil ?_
  refine AWp.seq ?_
  refine AWp.regionDrawG 18 2 [0, 1] [([], false), ([], false), ([], false), ([], false), ([], false), ([], false), ([], false), ([], false), ([], false), ([], false), ([], false), ([], false), ([], false), ([], false), ([], false), ([], false), ([0], true), ([1], true)] mixed (by kernel_rfl) (by decide) (by kernel_rfl) rfl rfl ?_
  refine AQG.cons 11 rfl rfl rfl (fun _ => (OpJ.move rfl rfl)) rfl ?_
  refine AQG.cons 12 rfl rfl rfl (fun _ => (OpJ.fieldAddr rfl rfl fd28_0 rfl)) rfl ?_
  refine AQG.cons 13 rfl rfl rfl (fun _ => (OpJ.fieldAddr rfl rfl fd25_0 rfl)) rfl ?_
  refine AQG.cons 14 rfl rfl rfl (fun _ => (OpJ.load rfl rfl ty3 rfl)) rfl ?_
  refine AQG.cons 15 rfl rfl rfl (fun _ => (OpJ.fieldAddr rfl rfl fd28_1 rfl)) rfl ?_
  refine AQG.cons 16 rfl rfl rfl (fun _ => (OpJ.fieldAddr rfl rfl fd25_1 rfl)) rfl ?_
  refine AQG.cons 17 rfl rfl rfl (fun _ => (OpJ.load rfl rfl ty3 rfl)) rfl ?_
  refine AQG.cons 18 rfl rfl rfl (fun _ => (OpJ.callP (at_ok c l.glo l.chi hc (by omega) (by omega) (by omega) (by omega)) rfl rfl rfl rfl rf63)) rfl ?_
  refine AQG.cons 19 rfl rfl rfl (fun _ => (OpJ.move rfl rfl)) rfl ?_
  refine AQG.cons 20 rfl rfl rfl (fun _ => (OpJ.fieldAddr rfl rfl fd28_0 rfl)) rfl ?_
  refine AQG.cons 21 rfl rfl rfl (fun _ => (OpJ.fieldAddr rfl rfl fd25_1 rfl)) rfl ?_
  refine AQG.cons 22 rfl rfl rfl (fun _ => (OpJ.load rfl rfl ty3 rfl)) rfl ?_
  refine AQG.cons 23 rfl rfl rfl (fun _ => (OpJ.fieldAddr rfl rfl fd28_1 rfl)) rfl ?_
  refine AQG.cons 24 rfl rfl rfl (fun _ => (OpJ.fieldAddr rfl rfl fd25_0 rfl)) rfl ?_
  refine AQG.cons 25 rfl rfl rfl (fun _ => (OpJ.load rfl rfl ty3 rfl)) rfl ?_
  refine AQG.cons 26 rfl rfl rfl (fun _ => (OpJ.callP (at_ok c l.ghi l.clo hc (by omega) (by omega) (by omega) (by omega)) rfl rfl rfl rfl rf63)) rfl ?_
  refine AQG.lay (v0 := .ptr 2 0) 7 0 rfl rfl rfl rfl rfl rfl rfl rfl (fun _ => (OpJ.allocOwn rfl zr119 rfl)) rfl rfl rfl ?_
  refine AQG.lay (v0 := .ptr 2 0) 8 1 rfl rfl rfl rfl rfl rfl rfl rfl (fun _ => (OpJ.allocOwn rfl zr119 rfl)) rfl rfl rfl ?_
  refine AQG.nil ?_
  refine AList.c0 rfl rfl (OpJ.store rfl rfl rfl rfl rfl ty119 rfl rfl) ?_
  refine AList.c0 rfl rfl (OpJ.store rfl rfl rfl rfl rfl ty119 rfl rfl) ?_
  refine AList.nil ?_
  refine AWp.seq ?_
  refine AWp.seq ?_
  refine AWp.region ?_
  refine AList.c 27 rfl rfl rfl (OpJ.move rfl rfl) ?_
  refine AList.c 28 rfl rfl rfl (OpJ.fieldAddr rfl rfl fd28_2 rfl) ?_
  refine AList.c 29 rfl rfl rfl (OpJ.load rfl rfl ty3 rfl) ?_
  refine AList.c 30 rfl rfl rfl (OpJ.add rfl rfl rfl (i64ok ?_)) ?_
  · omega
  refine AList.c 31 rfl rfl rfl (OpJ.fieldAddr rfl rfl fd119_1 rfl) ?_
  refine AList.c 32 rfl rfl rfl (OpJ.load rfl rfl ty3 rfl) ?_
  refine AList.c 33 rfl rfl rfl (OpJ.mul rfl rfl rfl (i64ok ?_)) ?_
  · omega
  refine AList.c 34 rfl rfl rfl (OpJ.fieldAddr rfl rfl fd119_0 rfl) ?_
  refine AList.c 35 rfl rfl rfl (OpJ.load rfl rfl ty3 rfl) ?_
  refine AList.c 36 rfl rfl rfl (OpJ.lss rfl rfl rfl) ?_
  refine AList.c 37 rfl rfl rfl (OpJ.move rfl rfl) ?_
  refine AList.g 38 37 rfl rfl rfl rfl rfl rfl rfl [(2, _)] (fun h => And.intro (.inl rfl) (trivial)) (fun h => (OpJ.move rfl rfl)) ?_
  refine AList.g 39 37 rfl rfl rfl rfl rfl rfl rfl [(8, _)] (fun h => And.intro (.inl rfl) (trivial)) (fun h => (OpJ.fieldAddr rfl rfl fd119_1 rfl)) ?_
  refine AList.g 40 37 rfl rfl rfl rfl rfl rfl rfl [(39, _)] (fun h => And.intro (.inr ⟨_, rfl, h⟩) (trivial)) (fun h => (OpJ.load rfl rfl ty3 rfl)) ?_
  refine AList.g 41 37 rfl rfl rfl rfl rfl rfl rfl [(38, _), (40, _)] (fun h => And.intro (.inr ⟨_, rfl, h⟩) (And.intro (.inr ⟨_, rfl, h⟩) (trivial))) (fun h => (OpJ.mul rfl rfl rfl (i64ok (by omega)))) ?_
  refine AList.g 42 37 rfl rfl rfl rfl rfl rfl rfl [(8, _)] (fun h => And.intro (.inl rfl) (trivial)) (fun h => (OpJ.fieldAddr rfl rfl fd119_0 rfl)) ?_
  refine AList.g 43 37 rfl rfl rfl rfl rfl rfl rfl [(42, _)] (fun h => And.intro (.inr ⟨_, rfl, h⟩) (trivial)) (fun h => (OpJ.load rfl rfl ty3 rfl)) ?_
  refine AList.g 44 37 rfl rfl rfl rfl rfl rfl rfl [(4, _)] (fun h => And.intro (.inl rfl) (trivial)) (fun h => (OpJ.fieldAddr rfl rfl fd28_2 rfl)) ?_
  refine AList.g 45 37 rfl rfl rfl rfl rfl rfl rfl [(44, _)] (fun h => And.intro (.inr ⟨_, rfl, h⟩) (trivial)) (fun h => (OpJ.load rfl rfl ty3 rfl)) ?_
  refine AList.g 46 37 rfl rfl rfl rfl rfl rfl rfl [(8, _)] (fun h => And.intro (.inl rfl) (trivial)) (fun h => (OpJ.fieldAddr rfl rfl fd119_1 rfl)) ?_
  refine AList.g 47 37 rfl rfl rfl rfl rfl rfl rfl [(46, _)] (fun h => And.intro (.inr ⟨_, rfl, h⟩) (trivial)) (fun h => (OpJ.load rfl rfl ty3 rfl)) ?_
  refine AList.g 48 37 rfl rfl rfl rfl rfl rfl rfl [(45, _), (47, _)] (fun h => And.intro (.inr ⟨_, rfl, h⟩) (And.intro (.inr ⟨_, rfl, h⟩) (trivial))) (fun h => (OpJ.mul rfl rfl rfl (i64ok (by omega)))) ?_
  refine AList.g 49 37 rfl rfl rfl rfl rfl rfl rfl [(43, _), (48, _)] (fun h => And.intro (.inr ⟨_, rfl, h⟩) (And.intro (.inr ⟨_, rfl, h⟩) (trivial))) (fun h => (OpJ.add rfl rfl rfl (i64ok (by omega)))) ?_
  refine AList.g 50 37 rfl rfl rfl rfl rfl rfl rfl [(41, _), (49, _)] (fun h => And.intro (.inr ⟨_, rfl, h⟩) (And.intro (.inr ⟨_, rfl, h⟩) (trivial))) (fun h => (OpJ.gtr rfl rfl rfl)) ?_
  refine AList.c 51 rfl rfl rfl (OpJ.or_ rfl rfl rfl ?_) ?_
  · first | (intro h; rw [h]; rfl) | (intro h; simp_all)
  refine AList.nil ?_
  refine AWp.cond _ rfl (fun hc0 => ?_) (fun hc0 => ?_)
  · skip
    refine AWp.seq ?_
    refine AWp.region ?_
    refine AList.c 6 rfl rfl rfl (OpJ.assign rfl rfl) ?_
    refine AList.nil ?_
    refine AWp.ret ?_
    refine Fin.oneE rfl rfl ?_
    rw [decide_eq_false (p := holdsI c l n) (fun h => by have h1 := h.1; simp at hc0; omega)]
  · skip
    have hA : topI c l.glo l.chi ≤ (n + l.tol) * undI c l.glo l.chi ∧ n * undI c l.ghi l.clo ≤ topI c l.ghi l.clo + l.tol * undI c l.ghi l.clo := by simp at hc0; omega
    refine AWp.skip ?_
    refine AWp.seq ?_
    refine AWp.seq ?_
    refine AWp.region ?_
    refine AList.c 9 rfl rfl rfl (OpJ.assign rfl rfl) ?_
    refine AList.nil ?_
    refine AWp.block ?_
    refine AWp.loopHL [2, 4] (fun g => [(9, .p (.int .i64 ((g : Nat) : Int)))]) (fun g => []) (fun g => g ≤ l.st.length ∧ ∀ j, j < g → n * (stk l.st j).plo ≤ 1000 * (stk l.st j).rhi ∧ 1000 * (stk l.st j).rlo ≤ n * (stk l.st j).phi) (fun g => l.st.length - g) 0 ⟨Nat.zero_le _, fun j hj => absurd hj (by omega)⟩ (To.done [] rfl (by repeat (first | exact Sub.nil | refine Sub.cons rfl ?_)) rfl) (fun i hg => ?_)
    obtain ⟨hg1, hg2⟩ := hg
    refine AWp.seq ?_
    refine AWp.seq ?_
    refine AWp.region ?_
    refine AList.c 52 rfl rfl rfl (OpJ.move rfl rfl) ?_
    refine AList.c 53 rfl rfl rfl (OpJ.fieldAddr rfl rfl fd28_3 rfl) ?_
    refine AList.c 54 rfl rfl rfl (OpJ.load rfl rfl ty26 rfl) ?_
    refine AList.c 55 rfl rfl rfl (OpJ.lenSlice rfl rfl sl26 rfl) ?_
    refine AList.c 56 rfl rfl rfl (OpJ.lss rfl rfl rfl) ?_
    refine AList.nil ?_
    refine AWp.cond _ rfl (fun hc1 => ?_) (fun hc1 => ?_)
    · skip
      have hk0 : i < l.st.length := by have h := of_decide_eq_true hc1; omega
      have hs := hl.st _ (stk_mem hk0)
      unfold okS at hs
      have m4 := mulN (a := n) (b := (stk l.st i).plo) (A := 1000) (B := 4000) (by omega) (by omega) (by omega) (by omega)
      have m5 := mulN (a := n) (b := (stk l.st i).phi) (A := 1000) (B := 4000) (by omega) (by omega) (by omega) (by omega)
      refine AWp.skip ?_
      refine AWp.seq ?_
      refine AWp.block ?_
      refine AWp.seq ?_
      refine AWp.region ?_
      refine AList.c 59 rfl rfl rfl (OpJ.fieldAddr rfl rfl fd28_3 rfl) ?_
      refine AList.c 60 rfl rfl rfl (OpJ.load rfl rfl ty26 rfl) ?_
      refine AList.c 61 rfl rfl rfl (OpJ.move rfl rfl) ?_
      refine AList.c 62 rfl rfl rfl (OpJ.indexG (g := stk l.st) (fun _ h => stk_get h) rfl rfl rfl sl26 el26 rfl (fun _ => rfl) (by decide) hk0) ?_
      refine AList.c 63 rfl rfl rfl (OpJ.load rfl rfl ty51 rfl) ?_
      refine AList.c 10 rfl rfl rfl (OpJ.allocOwn rfl zr51 rfl) ?_
      refine AList.c0 rfl rfl (OpJ.store rfl rfl rfl rfl rfl ty51 rfl rfl) ?_
      refine AList.nil ?_
      refine AWp.seq ?_
      refine AWp.region ?_
      refine AList.c 64 rfl rfl rfl (OpJ.move rfl rfl) ?_
      refine AList.c 65 rfl rfl rfl (OpJ.fieldAddr rfl rfl fd51_1 rfl) ?_
      refine AList.c 66 rfl rfl rfl (OpJ.fieldAddr rfl rfl fd25_0 rfl) ?_
      refine AList.c 67 rfl rfl rfl (OpJ.load rfl rfl ty3 rfl) ?_
      refine AList.c 68 rfl rfl rfl (OpJ.mul rfl rfl rfl (i64ok ?_)) ?_
      · omega
      refine AList.c 69 rfl rfl rfl (OpJ.fieldAddr rfl rfl fd51_0 rfl) ?_
      refine AList.c 70 rfl rfl rfl (OpJ.fieldAddr rfl rfl fd25_1 rfl) ?_
      refine AList.c 71 rfl rfl rfl (OpJ.load rfl rfl ty3 rfl) ?_
      refine AList.c 72 rfl rfl rfl (OpJ.mul rfl rfl rfl (i64ok ?_)) ?_
      · omega
      refine AList.c 73 rfl rfl rfl (OpJ.gtr rfl rfl rfl) ?_
      refine AList.c 74 rfl rfl rfl (OpJ.move rfl rfl) ?_
      refine AList.g 75 74 rfl rfl rfl rfl rfl rfl rfl [(2, _)] (fun h => And.intro (.inl rfl) (trivial)) (fun h => (OpJ.move rfl rfl)) ?_
      refine AList.g 76 74 rfl rfl rfl rfl rfl rfl rfl [(10, _)] (fun h => And.intro (.inl rfl) (trivial)) (fun h => (OpJ.fieldAddr rfl rfl fd51_1 rfl)) ?_
      refine AList.g 77 74 rfl rfl rfl rfl rfl rfl rfl [(76, _)] (fun h => And.intro (.inr ⟨_, rfl, h⟩) (trivial)) (fun h => (OpJ.fieldAddr rfl rfl fd25_1 rfl)) ?_
      refine AList.g 78 74 rfl rfl rfl rfl rfl rfl rfl [(77, _)] (fun h => And.intro (.inr ⟨_, rfl, h⟩) (trivial)) (fun h => (OpJ.load rfl rfl ty3 rfl)) ?_
      refine AList.g 79 74 rfl rfl rfl rfl rfl rfl rfl [(75, _), (78, _)] (fun h => And.intro (.inr ⟨_, rfl, h⟩) (And.intro (.inr ⟨_, rfl, h⟩) (trivial))) (fun h => (OpJ.mul rfl rfl rfl (i64ok (by omega)))) ?_
      refine AList.g 80 74 rfl rfl rfl rfl rfl rfl rfl [(10, _)] (fun h => And.intro (.inl rfl) (trivial)) (fun h => (OpJ.fieldAddr rfl rfl fd51_0 rfl)) ?_
      refine AList.g 81 74 rfl rfl rfl rfl rfl rfl rfl [(80, _)] (fun h => And.intro (.inr ⟨_, rfl, h⟩) (trivial)) (fun h => (OpJ.fieldAddr rfl rfl fd25_0 rfl)) ?_
      refine AList.g 82 74 rfl rfl rfl rfl rfl rfl rfl [(81, _)] (fun h => And.intro (.inr ⟨_, rfl, h⟩) (trivial)) (fun h => (OpJ.load rfl rfl ty3 rfl)) ?_
      refine AList.g 83 74 rfl rfl rfl rfl rfl rfl rfl [(82, _)] (fun h => And.intro (.inr ⟨_, rfl, h⟩) (trivial)) (fun h => (OpJ.mul rfl rfl rfl (i64ok (by omega)))) ?_
      refine AList.g 84 74 rfl rfl rfl rfl rfl rfl rfl [(79, _), (83, _)] (fun h => And.intro (.inr ⟨_, rfl, h⟩) (And.intro (.inr ⟨_, rfl, h⟩) (trivial))) (fun h => (OpJ.lss rfl rfl rfl)) ?_
      refine AList.c 85 rfl rfl rfl (OpJ.or_ rfl rfl rfl ?_) ?_
      · first | (intro h; rw [h]; rfl) | (intro h; simp_all)
      refine AList.nil ?_
      refine AWp.cond _ rfl (fun hc2 => ?_) (fun hc2 => ?_)
      · skip
        refine AWp.seq ?_
        refine AWp.region ?_
        refine AList.c 6 rfl rfl rfl (OpJ.assign rfl rfl) ?_
        refine AList.nil ?_
        refine AWp.ret ?_
        refine Fin.oneE rfl rfl ?_
        rw [decide_eq_false (p := holdsI c l n) (fun h => by have h1 := h.2 _ (stk_mem hk0); simp at hc2; omega)]
      · skip
        have hst : n * (stk l.st i).plo ≤ 1000 * (stk l.st i).rhi ∧ 1000 * (stk l.st i).rlo ≤ n * (stk l.st i).phi := by simp at hc2; omega
        refine AWp.skip ?_
        refine AWp.region ?_
        refine AList.c 57 rfl rfl rfl (OpJ.move rfl rfl) ?_
        refine AList.c 58 rfl rfl rfl (OpJ.add rfl rfl rfl (i64ok ?_)) ?_
        · omega
        refine AList.c 9 rfl rfl rfl (OpJ.assign rfl rfl) ?_
        refine AList.nil ?_
        refine ⟨i + 1, ?_, ?_, ?_⟩
        · refine ⟨by omega, fun j hj => ?_⟩
          rcases Nat.lt_succ_iff_lt_or_eq.1 hj with h1 | rfl
          · exact hg2 j h1
          · exact hst
        · omega
        exact To.done [] rfl (by repeat (first | exact Sub.nil | refine Sub.cons rfl ?_)) rfl
    · skip
      obtain rfl : i = l.st.length := by have h := of_decide_eq_false hc1; omega
      refine AWp.exit ?_
      refine AWp.seq ?_
      refine AWp.region ?_
      refine AList.c 6 rfl rfl rfl (OpJ.assign rfl rfl) ?_
      refine AList.nil ?_
      refine AWp.ret ?_
      refine Fin.oneE rfl rfl ?_
      rw [decide_eq_true (p := holdsI c l n) ⟨hA, fun s hs => by obtain ⟨j, hj, rfl⟩ := List.getElem_of_mem hs; rw [stk_get hj]; exact hg2 j hj⟩]
theorem rspanf_ok (c : List Tnt) (l : Lds) (hc : okC c) (hl : OkL l) : Pure Try.prog 39 [curV c, ldV l] (.tuple [spV (spanN c l 201), .bool (spanF c l 201)]) := by
  refine Pure.start (N := 25) Try.func39 rfl rfl (Nat.le_of_ble_eq_true rfl) ?_
  refine AWp.seq ?_
  refine AWp.region ?_
  refine AList.c 3 rfl rfl rfl (OpJ.boxImm rfl rfl rfl) ?_
  refine AList.c 4 rfl rfl rfl (OpJ.allocOwn rfl zr25 rfl) ?_
  refine AList.c 5 rfl rfl rfl (OpJ.assign rfl rfl) ?_
  refine AList.nil ?_
  refine AWp.seq ?_
  refine AWp.region ?_
  refine AList.c 6 rfl rfl rfl (OpJ.allocOwn rfl zr25 rfl) ?_
  refine AList.nil ?_
  refine AWp.seq ?_
  refine AWp.region ?_
  refine AList.c 7 rfl rfl rfl (OpJ.assign rfl rfl) ?_
  refine AList.nil ?_
  refine AWp.seq ?_
  refine AWp.seq ?_
  refine AWp.region ?_
  refine AList.c 8 rfl rfl rfl (OpJ.assign rfl rfl) ?_
  refine AList.nil ?_
  refine AWp.block ?_
  refine AWp.loopHL [0, 3, 4, 5, 6, 23, 24] (fun g => [(8, .p (.int .i64 ((g : Nat) : Int))), (7, .p (.bool (spanF c l g)))]) (fun g => [.cells [.p (.int .i64 0), .p (.int .i64 0)] 25, .cells [.p (.int .i64 (spanN c l g).1), .p (.int .i64 (spanN c l g).2)] 25]) (fun g => g ≤ 201) (fun g => 201 - g) 0 (by omega) (To.done [0, 1] rfl (Sub.cons rfl (Sub.cons (by rw [spanF_zero]; rfl) (by repeat (first | exact Sub.nil | refine Sub.cons rfl ?_)))) (by rw [spanN_zero]; rfl)) (fun i hg => ?_)
  refine AWp.seq ?_
  refine AWp.seq ?_
  refine AWp.region ?_
  refine AList.c 9 rfl rfl rfl (OpJ.move rfl rfl) ?_
  refine AList.c 10 rfl rfl rfl (OpJ.leq rfl rfl rfl) ?_
  refine AList.nil ?_
  refine AWp.cond _ rfl (fun hc0 => ?_) (fun hc0 => ?_)
  · skip
    have hk0 : i ≤ 200 := by have h := of_decide_eq_true hc0; omega
    have hq := holds_iff hc hl (i : Int)
    refine AWp.skip ?_
    refine AWp.seq ?_
    refine AWp.block ?_
    refine AWp.seq ?_
    refine AWp.region ?_
    refine AList.c 13 rfl rfl rfl (OpJ.move rfl rfl) ?_
    refine AList.c 14 rfl rfl rfl (OpJ.load rfl rfl ty28 rfl) ?_
    refine AList.c 15 rfl rfl rfl (OpJ.move rfl rfl) ?_
    refine AList.c 16 rfl rfl rfl (OpJ.callP (holds_ok c l ((i : Nat) : Int) hc hl (by omega) (by omega)) rfl rfl rfl rfl rf33) ?_
    refine AList.nil ?_
    refine AWp.cond _ rfl (fun hc1 => ?_) (fun hc1 => ?_)
    · skip
      have hh : (blk c l).1 ≤ i ∧ (i : Int) ≤ (blk c l).2 := hq.1 ⟨by omega, of_decide_eq_true hc1⟩
      refine AWp.seq ?_
      refine AWp.seq ?_
      refine AWp.region ?_
      refine AList.c 17 rfl rfl rfl (OpJ.move rfl rfl) ?_
      refine AList.c 18 rfl rfl rfl (OpJ.not_ rfl rfl) ?_
      refine AList.nil ?_
      refine AWp.cond _ rfl (fun hc2 => ?_) (fun hc2 => ?_)
      · skip
        have hf : ¬ ((blk c l).1 ≤ (blk c l).2 ∧ (blk c l).1 < (i : Int)) := by simp [spanF] at hc2; omega
        refine AWp.region ?_
        refine AList.c 19 rfl rfl rfl (OpJ.move rfl rfl) ?_
        refine AList.c 20 rfl rfl rfl (OpJ.fieldAddr rfl rfl fd25_0 rfl) ?_
        refine AList.c0 rfl rfl (OpJ.store rfl rfl rfl rfl rfl ty3 rfl rfl) ?_
        refine AList.nil ?_
        refine AWp.seq ?_
        refine AWp.region ?_
        refine AList.c 21 rfl rfl rfl (OpJ.move rfl rfl) ?_
        refine AList.c 22 rfl rfl rfl (OpJ.fieldAddr rfl rfl fd25_1 rfl) ?_
        refine AList.c0 rfl rfl (OpJ.store rfl rfl rfl rfl rfl ty3 rfl rfl) ?_
        refine AList.nil ?_
        refine AWp.region ?_
        refine AList.c 7 rfl rfl rfl (OpJ.assign rfl rfl) ?_
        refine AList.nil ?_
        refine AWp.region ?_
        refine AList.c 11 rfl rfl rfl (OpJ.move rfl rfl) ?_
        refine AList.c 12 rfl rfl rfl (OpJ.add rfl rfl rfl (i64ok ?_)) ?_
        · omega
        refine AList.c 8 rfl rfl rfl (OpJ.assign rfl rfl) ?_
        refine AList.nil ?_
        refine ⟨i + 1, ?_, ?_, ?_⟩
        · omega
        · omega
        refine To.done [0, 1] rfl (Sub.cons rfl (Sub.cons (by rw [spanF_yes hh]; rfl) (by repeat (first | exact Sub.nil | refine Sub.cons rfl ?_)))) (by rw [spanN_yes hh, spanN_lo hh hf]; rfl)
      · skip
        have hf : (blk c l).1 ≤ (blk c l).2 ∧ (blk c l).1 < (i : Int) := by simp [spanF] at hc2; omega
        refine AWp.skip ?_
        refine AWp.seq ?_
        refine AWp.region ?_
        refine AList.c 21 rfl rfl rfl (OpJ.move rfl rfl) ?_
        refine AList.c 22 rfl rfl rfl (OpJ.fieldAddr rfl rfl fd25_1 rfl) ?_
        refine AList.c0 rfl rfl (OpJ.store rfl rfl rfl rfl rfl ty3 rfl rfl) ?_
        refine AList.nil ?_
        refine AWp.region ?_
        refine AList.c 7 rfl rfl rfl (OpJ.assign rfl rfl) ?_
        refine AList.nil ?_
        refine AWp.region ?_
        refine AList.c 11 rfl rfl rfl (OpJ.move rfl rfl) ?_
        refine AList.c 12 rfl rfl rfl (OpJ.add rfl rfl rfl (i64ok ?_)) ?_
        · omega
        refine AList.c 8 rfl rfl rfl (OpJ.assign rfl rfl) ?_
        refine AList.nil ?_
        refine ⟨i + 1, ?_, ?_, ?_⟩
        · omega
        · omega
        refine To.done [0, 1] rfl (Sub.cons rfl (Sub.cons (by rw [spanF_yes hh]; rfl) (by repeat (first | exact Sub.nil | refine Sub.cons rfl ?_)))) (by rw [spanN_yes hh, spanN_in hf]; rfl)
    · skip
      have hh : ¬ ((blk c l).1 ≤ i ∧ (i : Int) ≤ (blk c l).2) := fun h => absurd (hq.2 h).2 (of_decide_eq_false hc1)
      refine AWp.skip ?_
      refine AWp.region ?_
      refine AList.c 11 rfl rfl rfl (OpJ.move rfl rfl) ?_
      refine AList.c 12 rfl rfl rfl (OpJ.add rfl rfl rfl (i64ok ?_)) ?_
      · omega
      refine AList.c 8 rfl rfl rfl (OpJ.assign rfl rfl) ?_
      refine AList.nil ?_
      refine ⟨i + 1, ?_, ?_, ?_⟩
      · omega
      · omega
      refine To.done [0, 1] rfl (Sub.cons rfl (Sub.cons (by rw [spanF_no hh]; rfl) (by repeat (first | exact Sub.nil | refine Sub.cons rfl ?_)))) (by rw [spanN_no hh]; rfl)
  · skip
    obtain rfl : i = 201 := by have h := of_decide_eq_false hc0; omega
    refine AWp.exit ?_
    refine AWp.seq ?_
    refine AWp.region ?_
    refine AList.c 23 rfl rfl rfl (OpJ.load rfl rfl ty25 rfl) ?_
    refine AList.c 24 rfl rfl rfl (OpJ.move rfl rfl) ?_
    refine AList.c0 rfl rfl (OpJ.store rfl rfl rfl rfl rfl ty25 rfl rfl) ?_
    refine AList.c 5 rfl rfl rfl (OpJ.assign rfl rfl) ?_
    refine AList.nil ?_
    refine AWp.ret ?_
    exact Fin.many (xs := [spV (spanN c l 201), .bool (spanF c l 201)]) rfl (⟨_, _, rfl, ⟨_, _, _, rfl, ty25, rfl⟩, ⟨_, _, rfl, rfl, rfl⟩⟩) rfl
theorem recB_ok (c : List Tnt) (l : Lds) (hc : okC c) (hl : OkL l) : Pure Try.prog 92 [.agg (curV c :: l.cells)] (spV (recB c l)) := by
  have lg := hl.g
  have lc := hl.c
  have lt := hl.t
  have l6 := hl.n
  have f1 := frac_ok hc (g := l.glo) (cl := l.chi) (by omega) (by omega) (by omega) (by omega)
  have f2 := frac_ok hc (g := l.ghi) (cl := l.clo) (by omega) (by omega) (by omega) (by omega)
  have fu1 := f1.u
  have fu2 := f2.u
  have ft1 := f1.t
  have ft2 := f2.t
  have r1 := rec_ok hc (g := l.glo) (cl := l.chi) (by omega) (by omega) (by omega) (by omega)
  have r2 := rec_ok hc (g := l.ghi) (cl := l.clo) (by omega) (by omega) (by omega) (by omega)
  have u1 := r1.u
  have d2 := r2.d
  refine Pure.start (N := 42) Try.func92 rfl rfl (Nat.le_of_ble_eq_true rfl) ?_
  refine AWp.seq ?_
  refine AWp.region ?_
  refine AList.c 1 rfl rfl rfl (OpJ.boxImm rfl rfl rfl) ?_
  refine AList.c 2 rfl rfl rfl (OpJ.allocOwn rfl zr25 rfl) ?_
  refine AList.nil ?_
  refine AWp.seq ?_
  refine AWp.regionDrawG 26 2 [1, 2] [([], false), ([], false), ([], false), ([], false), ([], false), ([], false), ([], false), ([], false), ([], false), ([], false), ([], false), ([], false), ([], false), ([], false), ([], false), ([], false), ([], false), ([], false), ([], false), ([], false), ([], false), ([], false), ([], false), ([], false), ([1], true), ([2], true)] mixed (by kernel_rfl) (by decide) (by kernel_rfl) rfl rfl ?_
  refine AQG.cons 5 rfl rfl rfl (fun _ => (OpJ.fieldAddr rfl rfl fd128_0 rfl)) rfl ?_
  refine AQG.cons 6 rfl rfl rfl (fun _ => (OpJ.load rfl rfl ty22 rfl)) rfl ?_
  refine AQG.cons 7 rfl rfl rfl (fun _ => (OpJ.fieldAddr rfl rfl fd128_1 rfl)) rfl ?_
  refine AQG.cons 8 rfl rfl rfl (fun _ => (OpJ.fieldAddr rfl rfl fd28_0 rfl)) rfl ?_
  refine AQG.cons 9 rfl rfl rfl (fun _ => (OpJ.fieldAddr rfl rfl fd25_0 rfl)) rfl ?_
  refine AQG.cons 10 rfl rfl rfl (fun _ => (OpJ.load rfl rfl ty3 rfl)) rfl ?_
  refine AQG.cons 11 rfl rfl rfl (fun _ => (OpJ.fieldAddr rfl rfl fd128_1 rfl)) rfl ?_
  refine AQG.cons 12 rfl rfl rfl (fun _ => (OpJ.fieldAddr rfl rfl fd28_1 rfl)) rfl ?_
  refine AQG.cons 13 rfl rfl rfl (fun _ => (OpJ.fieldAddr rfl rfl fd25_1 rfl)) rfl ?_
  refine AQG.cons 14 rfl rfl rfl (fun _ => (OpJ.load rfl rfl ty3 rfl)) rfl ?_
  refine AQG.cons 15 rfl rfl rfl (fun _ => (OpJ.build rfl bd156 rfl rfl)) rfl ?_
  refine AQG.cons 16 rfl rfl rfl (fun _ => (OpJ.callP (black_ok c l.glo l.chi hc (by omega) (by omega) (by omega) (by omega)) rfl rfl rfl rfl rf93)) rfl ?_
  refine AQG.cons 17 rfl rfl rfl (fun _ => (OpJ.fieldAddr rfl rfl fd128_0 rfl)) rfl ?_
  refine AQG.cons 18 rfl rfl rfl (fun _ => (OpJ.load rfl rfl ty22 rfl)) rfl ?_
  refine AQG.cons 19 rfl rfl rfl (fun _ => (OpJ.fieldAddr rfl rfl fd128_1 rfl)) rfl ?_
  refine AQG.cons 20 rfl rfl rfl (fun _ => (OpJ.fieldAddr rfl rfl fd28_0 rfl)) rfl ?_
  refine AQG.cons 21 rfl rfl rfl (fun _ => (OpJ.fieldAddr rfl rfl fd25_1 rfl)) rfl ?_
  refine AQG.cons 22 rfl rfl rfl (fun _ => (OpJ.load rfl rfl ty3 rfl)) rfl ?_
  refine AQG.cons 23 rfl rfl rfl (fun _ => (OpJ.fieldAddr rfl rfl fd128_1 rfl)) rfl ?_
  refine AQG.cons 24 rfl rfl rfl (fun _ => (OpJ.fieldAddr rfl rfl fd28_1 rfl)) rfl ?_
  refine AQG.cons 25 rfl rfl rfl (fun _ => (OpJ.fieldAddr rfl rfl fd25_0 rfl)) rfl ?_
  refine AQG.cons 26 rfl rfl rfl (fun _ => (OpJ.load rfl rfl ty3 rfl)) rfl ?_
  refine AQG.cons 27 rfl rfl rfl (fun _ => (OpJ.build rfl bd156 rfl rfl)) rfl ?_
  refine AQG.cons 28 rfl rfl rfl (fun _ => (OpJ.callP (black_ok c l.ghi l.clo hc (by omega) (by omega) (by omega) (by omega)) rfl rfl rfl rfl rf93)) rfl ?_
  refine AQG.lay (v0 := .ptr 3 0) 3 1 rfl rfl rfl rfl rfl rfl rfl rfl (fun _ => (OpJ.allocOwn rfl zr154 rfl)) rfl rfl rfl ?_
  refine AQG.lay (v0 := .ptr 3 0) 4 2 rfl rfl rfl rfl rfl rfl rfl rfl (fun _ => (OpJ.allocOwn rfl zr154 rfl)) rfl rfl rfl ?_
  refine AQG.nil ?_
  refine AList.c0 rfl rfl (OpJ.store rfl rfl rfl rfl rfl ty154 rfl rfl) ?_
  refine AList.c0 rfl rfl (OpJ.store rfl rfl rfl rfl rfl ty154 rfl rfl) ?_
  refine AList.nil ?_
  refine AWp.seq ?_
  refine AWp.regionDraw 13 mixed (by kernel_rfl) (by decide) ?_
  refine AQuiet.cons 29 rfl rfl rfl (OpJ.load rfl rfl ty154 rfl) ?_
  refine AQuiet.cons 30 rfl rfl rfl (OpJ.callP (up_ok _ _ (by omega) (by omega) (by omega) (by omega)) rfl rfl rfl rfl rf94) ?_
  refine AQuiet.cons 31 rfl rfl rfl (OpJ.fieldAddr rfl rfl fd128_1 rfl) ?_
  refine AQuiet.cons 32 rfl rfl rfl (OpJ.fieldAddr rfl rfl fd28_2 rfl) ?_
  refine AQuiet.cons 33 rfl rfl rfl (OpJ.load rfl rfl ty3 rfl) ?_
  refine AQuiet.cons 34 rfl rfl rfl (OpJ.sub_ rfl rfl rfl (i64ok ?_)) ?_
  · omega
  refine AQuiet.cons 35 rfl rfl rfl (OpJ.load rfl rfl ty154 rfl) ?_
  refine AQuiet.cons 36 rfl rfl rfl (OpJ.callP (down_ok _ _ (by omega) (by omega) (by omega) (by omega)) rfl rfl rfl rfl rf95) ?_
  refine AQuiet.cons 37 rfl rfl rfl (OpJ.fieldAddr rfl rfl fd128_1 rfl) ?_
  refine AQuiet.cons 38 rfl rfl rfl (OpJ.fieldAddr rfl rfl fd28_2 rfl) ?_
  refine AQuiet.cons 39 rfl rfl rfl (OpJ.load rfl rfl ty3 rfl) ?_
  refine AQuiet.cons 40 rfl rfl rfl (OpJ.add rfl rfl rfl (i64ok ?_)) ?_
  · omega
  refine AQuiet.cons 41 rfl rfl rfl (OpJ.build rfl bd25 rfl rfl) ?_
  refine AQuiet.nil ?_
  refine AList.c0 rfl rfl (OpJ.store rfl rfl rfl rfl rfl ty25 rfl rfl) ?_
  refine AList.nil ?_
  refine AWp.ret ?_
  exact Fin.one rfl (⟨_, _, _, rfl, ty25, rfl⟩)
theorem stkB_ok (s : Stk) (hs : okS s) : Pure Try.prog 98 [.agg s.cells] (spV (stkBd s)) := by
  unfold okS at hs
  refine Pure.start (N := 26) Try.func98 rfl rfl (Nat.le_of_ble_eq_true rfl) ?_
  refine AWp.seq ?_
  refine AWp.region ?_
  refine AList.c 1 rfl rfl rfl (OpJ.boxImm rfl rfl rfl) ?_
  refine AList.c 2 rfl rfl rfl (OpJ.allocOwn rfl zr25 rfl) ?_
  refine AList.nil ?_
  refine AWp.seq ?_
  refine AWp.regionDraw 23 mixed (by kernel_rfl) (by decide) ?_
  refine AQuiet.cons 3 rfl rfl rfl (OpJ.fieldAddr rfl rfl fd131_0 rfl) ?_
  refine AQuiet.cons 4 rfl rfl rfl (OpJ.fieldAddr rfl rfl fd51_0 rfl) ?_
  refine AQuiet.cons 5 rfl rfl rfl (OpJ.fieldAddr rfl rfl fd25_0 rfl) ?_
  refine AQuiet.cons 6 rfl rfl rfl (OpJ.load rfl rfl ty3 rfl) ?_
  refine AQuiet.cons 7 rfl rfl rfl (OpJ.mul rfl rfl rfl (i64ok ?_)) ?_
  · omega
  refine AQuiet.cons 8 rfl rfl rfl (OpJ.fieldAddr rfl rfl fd131_0 rfl) ?_
  refine AQuiet.cons 9 rfl rfl rfl (OpJ.fieldAddr rfl rfl fd51_1 rfl) ?_
  refine AQuiet.cons 10 rfl rfl rfl (OpJ.fieldAddr rfl rfl fd25_1 rfl) ?_
  refine AQuiet.cons 11 rfl rfl rfl (OpJ.load rfl rfl ty3 rfl) ?_
  refine AQuiet.cons 12 rfl rfl rfl (OpJ.build rfl bd154 rfl rfl) ?_
  refine AQuiet.cons 13 rfl rfl rfl (OpJ.callP (up_ok (1000 * s.rlo) s.phi (by omega) (by omega) (by omega) (by omega)) rfl rfl rfl rfl rf94) ?_
  refine AQuiet.cons 14 rfl rfl rfl (OpJ.fieldAddr rfl rfl fd131_0 rfl) ?_
  refine AQuiet.cons 15 rfl rfl rfl (OpJ.fieldAddr rfl rfl fd51_0 rfl) ?_
  refine AQuiet.cons 16 rfl rfl rfl (OpJ.fieldAddr rfl rfl fd25_1 rfl) ?_
  refine AQuiet.cons 17 rfl rfl rfl (OpJ.load rfl rfl ty3 rfl) ?_
  refine AQuiet.cons 18 rfl rfl rfl (OpJ.mul rfl rfl rfl (i64ok ?_)) ?_
  · omega
  refine AQuiet.cons 19 rfl rfl rfl (OpJ.fieldAddr rfl rfl fd131_0 rfl) ?_
  refine AQuiet.cons 20 rfl rfl rfl (OpJ.fieldAddr rfl rfl fd51_1 rfl) ?_
  refine AQuiet.cons 21 rfl rfl rfl (OpJ.fieldAddr rfl rfl fd25_0 rfl) ?_
  refine AQuiet.cons 22 rfl rfl rfl (OpJ.load rfl rfl ty3 rfl) ?_
  refine AQuiet.cons 23 rfl rfl rfl (OpJ.build rfl bd154 rfl rfl) ?_
  refine AQuiet.cons 24 rfl rfl rfl (OpJ.callP (down_ok (1000 * s.rhi) s.plo (by omega) (by omega) (by omega) (by omega)) rfl rfl rfl rfl rf95) ?_
  refine AQuiet.cons 25 rfl rfl rfl (OpJ.build rfl bd25 rfl rfl) ?_
  refine AQuiet.nil ?_
  refine AList.c0 rfl rfl (OpJ.store rfl rfl rfl rfl rfl ty25 rfl rfl) ?_
  refine AList.nil ?_
  refine AWp.ret ?_
  exact Fin.one rfl (⟨_, _, _, rfl, ty25, rfl⟩)
theorem src_F (name : String) (h1 : mthI Try.prog 128 name = some 92) (h2 : mthI Try.prog 131 name = some 98) (c : List Tnt) (l : Lds) (hc : okC c) (hl : OkL l) (k : Nat) : FIface Try.prog name (srcV c l (srcAt l k)) [] (spV (srcB c l (srcAt l k))) := by
  cases h : srcAt l k with
  | none => exact ⟨128, _, 92, rfl, h1, rf92, recB_ok c l hc hl⟩
  | some s => exact ⟨131, _, 98, rfl, h2, rf98, stkB_ok s (hl.st s (srcAt_mem h))⟩
theorem blackOf_ok (c : List Tnt) (l : Lds) (hc : okC c) (hl : OkL l) : Pure Try.prog 68 [curV c, ldV l] (spV (blk c l)) := by
  have lg := hl.g
  have lc := hl.c
  have lt := hl.t
  have l6 := hl.n
  refine Pure.start (N := 53) Try.func68 rfl rfl (Nat.le_of_ble_eq_true rfl) ?_
  refine AWp.seq ?_
  refine AWp.region ?_
  refine AList.c 3 rfl rfl rfl (OpJ.boxImm rfl rfl rfl) ?_
  refine AList.c 4 rfl rfl rfl (OpJ.allocOwn rfl zr25 rfl) ?_
  refine AList.nil ?_
  refine AWp.seq ?_
  refine AWp.region ?_
  refine AList.c 12 rfl rfl rfl (OpJ.move rfl rfl) ?_
  refine AList.c 13 rfl rfl rfl (OpJ.load rfl rfl ty28 rfl) ?_
  refine AList.c 14 rfl rfl rfl (OpJ.build rfl bd128 rfl rfl) ?_
  refine AList.c 15 rfl rfl rfl (OpJ.makeIface rfl rfl con128) ?_
  refine AList.c 16 rfl rfl rfl (OpJ.buildOwn rfl slz129 (by decide) rfl rfl) ?_
  refine AList.c 5 rfl rfl rfl (OpJ.assign rfl rfl) ?_
  refine AList.nil ?_
  refine AWp.seq ?_
  refine AWp.seq ?_
  refine AWp.region ?_
  refine AList.c 17 rfl rfl rfl (OpJ.fieldAddr rfl rfl fd28_3 rfl) ?_
  refine AList.c 18 rfl rfl rfl (OpJ.load rfl rfl ty26 rfl) ?_
  refine AList.c 19 rfl rfl rfl (OpJ.lenSlice rfl rfl sl26 rfl) ?_
  refine AList.c 20 rfl rfl rfl (OpJ.move rfl rfl) ?_
  refine AList.nil ?_
  refine AWp.block ?_
  refine AWp.loopHL [4, 8, 10, 11, 18, 19, 31, 32, 33, 34, 35, 36, 37, 38, 39, 40, 41, 42, 43, 44, 45, 46, 47, 48, 49, 50, 51, 52] (fun g => [(20, .p (.int .i64 ((g : Nat) : Int))), (5, accV 1 (g + 1))]) (fun g => [.cells [.p (.int .i64 0), .p (.int .i64 0)] 25, accB (((srcL l g).flatMap (srcC c l)).map .p) 133 (g + 1)]) (fun g => g ≤ l.st.length) (fun g => l.st.length - g) 0 (Nat.zero_le _) (To.sub (Sub.chk (Sub.cons rfl (Sub.cons rfl (Sub.nil))))) (fun i hg => ?_)
  refine AWp.seq ?_
  refine AWp.region ?_
  refine AList.c 21 rfl rfl rfl (OpJ.lss rfl rfl rfl) ?_
  refine AList.nil ?_
  refine AWp.seq ?_
  refine AWp.cond _ rfl (fun hc0 => ?_) (fun hc0 => ?_)
  · skip
    have hk0 : i < l.st.length := by have h := of_decide_eq_true hc0; omega
    refine AWp.skip ?_
    refine AWp.seq ?_
    refine AWp.block ?_
    refine AWp.seq ?_
    refine AWp.region ?_
    refine AList.c 22 rfl rfl rfl (OpJ.indexG (g := stk l.st) (fun _ h => stk_get h) rfl rfl rfl sl26 el26 rfl (fun _ => rfl) (by decide) hk0) ?_
    refine AList.c 23 rfl rfl rfl (OpJ.load rfl rfl ty51 rfl) ?_
    refine AList.c 7 rfl rfl rfl (OpJ.allocOwn rfl zr51 rfl) ?_
    refine AList.c0 rfl rfl (OpJ.store rfl rfl rfl rfl rfl ty51 rfl rfl) ?_
    refine AList.nil ?_
    refine AWp.region ?_
    refine AList.c 24 rfl rfl rfl (OpJ.move rfl rfl) ?_
    refine AList.c 25 rfl rfl rfl (OpJ.load rfl rfl ty51 rfl) ?_
    refine AList.c 26 rfl rfl rfl (OpJ.build rfl bd131 rfl rfl) ?_
    refine AList.c 27 rfl rfl rfl (OpJ.makeIface rfl rfl con131) ?_
    refine AList.c 28 rfl rfl rfl (OpJ.buildImm rfl slz129 (by decide) rfl rfl rfl) ?_
    refine AList.c 29 rfl rfl rfl (OpJ.appendRow rfl rfl rfl slz129 sl129 rfl ?_ rfl rfl by133 (by decide) ?_) ?_
    · rw [List.length_map, flat_len (c := 1) (srcC_len c l), srcL_length l _ hg]; rfl
    · show (2 * (i + 1 + 1) + 192) * 16 ≤ 281474976710656; omega
    refine AList.c 5 rfl rfl rfl (OpJ.assign rfl rfl) ?_
    refine AList.nil ?_
    refine AWp.region ?_
    refine AList.c 30 rfl rfl rfl (OpJ.add rfl rfl rfl (i64ok ?_)) ?_
    · omega
    refine AList.c 20 rfl rfl rfl (OpJ.move rfl rfl) ?_
    refine AList.nil ?_
    refine ⟨i + 1, ?_, ?_, ?_⟩
    · omega
    · omega
    refine To.done [0, 3] rfl (by repeat (first | exact Sub.nil | refine Sub.cons rfl ?_)) ?_
    show [_, Blk.row (renL _ (_ ++ _)) _] = [_, Blk.row _ _]
    rw [renL_app, renL_pure, srcL_succ hk0, List.flatMap_append, List.map_append, stk_get hk0]
    rfl
  · skip
    obtain rfl : i = l.st.length := by have h := of_decide_eq_false hc0; omega
    refine AWp.to (To.accD 5 1 (l.st.length + 1) rfl rfl (fun h => by cases h)) ?_
    refine AWp.exit ?_
    refine AWp.seq ?_
    refine AWp.region ?_
    refine AList.c 31 rfl rfl rfl (OpJ.build rfl bd25 rfl rfl) ?_
    refine AList.c 8 rfl rfl rfl (OpJ.allocOwn rfl zr25 rfl) ?_
    refine AList.c0 rfl rfl (OpJ.store rfl rfl rfl rfl rfl ty25 rfl rfl) ?_
    refine AList.nil ?_
    refine AWp.seq ?_
    refine AWp.seq ?_
    refine AWp.region ?_
    refine AList.c 32 rfl rfl rfl (OpJ.move rfl rfl) ?_
    refine AList.c 33 rfl rfl rfl (OpJ.lenSlice rfl rfl sl129 rfl) ?_
    refine AList.c 34 rfl rfl rfl (OpJ.move rfl rfl) ?_
    refine AList.nil ?_
    refine AWp.block ?_
    refine AWp.loopHL [4, 8, 32, 33, 52] (fun g => [(34, .p (.int .i64 ((g : Nat) : Int)))]) (fun g => [.cells [.p (.int .i64 0), .p (.int .i64 0)] 25, .dead, .cells [.p (.int .i64 (blkN c l g).1), .p (.int .i64 (blkN c l g).2)] 25]) (fun g => g ≤ l.st.length + 1) (fun g => l.st.length + 1 - g) 0 (Nat.zero_le _) (To.sub (Sub.chk (Sub.cons rfl (Sub.nil)))) (fun j hh => ?_)
    refine AWp.seq ?_
    refine AWp.region ?_
    refine AList.c 35 rfl rfl rfl (OpJ.lss rfl rfl rfl) ?_
    refine AList.nil ?_
    refine AWp.seq ?_
    refine AWp.cond _ rfl (fun hc1 => ?_) (fun hc1 => ?_)
    · skip
      have hk1 : j < l.st.length + 1 := by have h := of_decide_eq_true hc1; omega
      refine AWp.skip ?_
      refine AWp.seq ?_
      refine AWp.block ?_
      refine AWp.seq ?_
      refine AWp.region ?_
      refine AList.c 36 rfl rfl rfl (OpJ.indexG (g := srcAt l) (srcL_get l) rfl rfl rfl sl129 el129 (srcL_length l _ (Nat.le_refl _)).symm (srcC_len c l) (by decide) (by rw [srcL_length l _ (Nat.le_refl _)]; omega)) ?_
      refine AList.c 37 rfl rfl rfl (OpJ.load rfl rfl ty133 rfl) ?_
      refine AList.c 10 rfl rfl rfl (OpJ.assign rfl rfl) ?_
      refine AList.nil ?_
      refine AWp.seq ?_
      refine AWp.region ?_
      refine AList.c 38 rfl rfl rfl (OpJ.move rfl rfl) ?_
      refine AList.c 39 rfl rfl rfl (OpJ.invoke (src_F _ (by kernel_rfl) (by kernel_rfl) c l hc hl j) rfl rfl rfl) ?_
      refine AList.c 11 rfl rfl rfl (OpJ.allocOwn rfl zr25 rfl) ?_
      refine AList.c0 rfl rfl (OpJ.store rfl rfl rfl rfl rfl ty25 rfl rfl) ?_
      refine AList.nil ?_
      refine AWp.region ?_
      refine AList.c 40 rfl rfl rfl (OpJ.fieldAddr rfl rfl fd25_0 rfl) ?_
      refine AList.c 41 rfl rfl rfl (OpJ.load rfl rfl ty3 rfl) ?_
      refine AList.c 42 rfl rfl rfl (OpJ.fieldAddr rfl rfl fd25_0 rfl) ?_
      refine AList.c 43 rfl rfl rfl (OpJ.load rfl rfl ty3 rfl) ?_
      refine AList.c 44 rfl rfl rfl (OpJ.max2 rfl rfl rfl) ?_
      refine AList.c 45 rfl rfl rfl (OpJ.fieldAddr rfl rfl fd25_1 rfl) ?_
      refine AList.c 46 rfl rfl rfl (OpJ.load rfl rfl ty3 rfl) ?_
      refine AList.c 47 rfl rfl rfl (OpJ.fieldAddr rfl rfl fd25_1 rfl) ?_
      refine AList.c 48 rfl rfl rfl (OpJ.load rfl rfl ty3 rfl) ?_
      refine AList.c 49 rfl rfl rfl (OpJ.min2 rfl rfl rfl) ?_
      refine AList.c 50 rfl rfl rfl (OpJ.build rfl bd25 rfl rfl) ?_
      refine AList.c0 rfl rfl (OpJ.store rfl rfl rfl rfl rfl ty25 rfl rfl) ?_
      refine AList.nil ?_
      refine AWp.region ?_
      refine AList.c 51 rfl rfl rfl (OpJ.add rfl rfl rfl (i64ok ?_)) ?_
      · omega
      refine AList.c 34 rfl rfl rfl (OpJ.move rfl rfl) ?_
      refine AList.nil ?_
      refine ⟨j + 1, ?_, ?_, ?_⟩
      · omega
      · omega
      refine To.done [0, 1, 2] rfl (by repeat (first | exact Sub.nil | refine Sub.cons rfl ?_)) (by rw [blkN_succ hk1]; rfl)
    · skip
      obtain rfl : j = l.st.length + 1 := by have h := of_decide_eq_false hc1; omega
      rw [blkN_all]
      refine AWp.exit ?_
      refine AWp.seq ?_
      refine AWp.region ?_
      refine AList.c 52 rfl rfl rfl (OpJ.load rfl rfl ty25 rfl) ?_
      refine AList.c0 rfl rfl (OpJ.store rfl rfl rfl rfl rfl ty25 rfl rfl) ?_
      refine AList.nil ?_
      refine AWp.ret ?_
      exact Fin.one rfl (⟨_, _, _, rfl, ty25, rfl⟩)
end Go.Proofs.Ythiapodcippnoaa
