/-
  What is valid, in the other text; the examples.
-/
import Derived.Test.YtofenmailjdehaaDoorXrFacts
import Derived.Test.YtofenmailjdehaaDoorXr5
import Derived.Test.YtofenmailjdehaaDoorTcQ
set_option linter.unusedVariables false
set_option maxRecDepth 100000
set_option maxHeartbeats 4000000
set_option linter.unusedSimpArgs false
namespace Go.Proofs.YtofenmailjdehaaDoor
open Go.AF
theorem rin_ok (n lo hi : Int) : Pure Tryd.prog 18 [.int .i64 n, .int .i64 lo, .int .i64 hi] (.bool (inB n lo hi)) := by
  refine Pure.start (N := 15) Tryd.func18 rfl rfl (Nat.le_of_ble_eq_true rfl) ?_
  refine AWp.seq ?_
  refine AWp.region ?_
  refine AList.c 6 rfl rfl rfl (OpJ.assign rfl rfl) ?_
  refine AList.nil ?_
  refine AWp.seq ?_
  refine AWp.region ?_
  refine AList.c 7 rfl rfl rfl (OpJ.move rfl rfl) ?_
  refine AList.c 8 rfl rfl rfl (OpJ.move rfl rfl) ?_
  refine AList.c 9 rfl rfl rfl (OpJ.leq rfl rfl rfl) ?_
  refine AList.c 10 rfl rfl rfl (OpJ.move rfl rfl) ?_
  refine AList.g 11 10 rfl rfl rfl rfl rfl rfl rfl [(0, _)] (fun h => And.intro (.inl rfl) (trivial)) (fun h => (OpJ.move rfl rfl)) ?_
  refine AList.g 12 10 rfl rfl rfl rfl rfl rfl rfl [(2, _)] (fun h => And.intro (.inl rfl) (trivial)) (fun h => (OpJ.move rfl rfl)) ?_
  refine AList.g 13 10 rfl rfl rfl rfl rfl rfl rfl [(11, _), (12, _)] (fun h => And.intro (.inr ⟨_, rfl, h⟩) (And.intro (.inr ⟨_, rfl, h⟩) (trivial))) (fun h => (OpJ.leq rfl rfl rfl)) ?_
  refine AList.c 14 rfl rfl rfl (OpJ.and_ rfl rfl rfl ?_) ?_
  · first | (intro h; rw [h]; rfl) | (intro h; simp_all)
  refine AList.c 6 rfl rfl rfl (OpJ.assign rfl rfl) ?_
  refine AList.nil ?_
  refine AWp.ret ?_
  exact Fin.one rfl (rfl)
theorem rplace_ok (c : Crt) (r k : Int) (hc : crB c = true) : Pure Tryd.prog 19 [crV c, .int .i64 r, .int .i64 k] (.bool (plB c r k)) := by
  obtain ⟨h1, h2, _⟩ := crB_of hc
  refine Pure.start (N := 20) Tryd.func19 rfl rfl (Nat.le_of_ble_eq_true rfl) ?_
  refine AWp.seq ?_
  refine AWp.region ?_
  refine AList.c 3 rfl rfl rfl (OpJ.boxImm rfl rfl rfl) ?_
  refine AList.c 6 rfl rfl rfl (OpJ.assign rfl rfl) ?_
  refine AList.nil ?_
  refine AWp.seq ?_
  refine AWp.region ?_
  refine AList.c 7 rfl rfl rfl (OpJ.move rfl rfl) ?_
  refine AList.c 8 rfl rfl rfl (OpJ.fieldAddr rfl rfl fd24_0 rfl) ?_
  refine AList.c 9 rfl rfl rfl (OpJ.load rfl rfl ty22 rfl) ?_
  refine AList.c 10 rfl rfl rfl (OpJ.lenSlice rfl rfl sl22 rfl) ?_
  refine AList.c 11 rfl rfl rfl (OpJ.sub_ rfl rfl rfl (i64ok ?_)) ?_
  · omega
  refine AList.c 12 rfl rfl rfl (OpJ.callP (rin_ok _ _ _) rfl rfl rfl rfl rf18) ?_
  refine AList.c 13 rfl rfl rfl (OpJ.move rfl rfl) ?_
  refine AList.g 14 13 rfl rfl rfl rfl rfl rfl rfl [(2, _)] (fun h => And.intro (.inl rfl) (trivial)) (fun h => (OpJ.move rfl rfl)) ?_
  refine AList.g 15 13 rfl rfl rfl rfl rfl rfl rfl [(3, _)] (fun h => And.intro (.inl rfl) (trivial)) (fun h => (OpJ.fieldAddr rfl rfl fd24_1 rfl)) ?_
  refine AList.g 16 13 rfl rfl rfl rfl rfl rfl rfl [(15, _)] (fun h => And.intro (.inr ⟨_, rfl, h⟩) (trivial)) (fun h => (OpJ.load rfl rfl ty3 rfl)) ?_
  refine AList.g 17 13 rfl rfl rfl rfl rfl rfl rfl [(16, _)] (fun h => And.intro (.inr ⟨_, rfl, h⟩) (trivial)) (fun h => (OpJ.sub_ rfl rfl rfl (i64ok ?_))) ?_
  · omega
  refine AList.g 18 13 rfl rfl rfl rfl rfl rfl rfl [(14, _), (17, _)] (fun h => And.intro (.inr ⟨_, rfl, h⟩) (And.intro (.inr ⟨_, rfl, h⟩) (trivial))) (fun h => (OpJ.callP (rin_ok _ _ _) rfl rfl rfl rfl rf18)) ?_
  refine AList.c 19 rfl rfl rfl (OpJ.and_ rfl rfl rfl ?_) ?_
  · first | (intro h; rw [h]; rfl) | (intro h; simp_all)
  refine AList.c 6 rfl rfl rfl (OpJ.assign rfl rfl) ?_
  refine AList.nil ?_
  refine AWp.ret ?_
  exact Fin.one rfl (rfl)
theorem rcrate_ok (c : Crt) (hb : c.rows.length ≤ bigN) : Pure Tryd.prog 5 [crV c] (.bool (crB c)) := by
  unfold bigN at hb
  refine Pure.start (N := 37) Tryd.func5 rfl rfl (Nat.le_of_ble_eq_true rfl) ?_
  refine AWp.seq ?_
  refine AWp.region ?_
  refine AList.c 1 rfl rfl rfl (OpJ.boxImm rfl rfl rfl) ?_
  refine AList.c 2 rfl rfl rfl (OpJ.assign rfl rfl) ?_
  refine AList.nil ?_
  refine AWp.seq ?_
  refine AWp.seq ?_
  refine AWp.region ?_
  refine AList.c 3 rfl rfl rfl (OpJ.assign rfl rfl) ?_
  refine AList.nil ?_
  refine AWp.block ?_
  refine AWp.loopKL [1, 18, 19, 20, 21, 22, 23, 24, 25, 26, 27, 28, 29, 30, 31, 32, 33, 34, 35, 36] (fun g => [(3, .p (.int .i64 ((g : Nat) : Int)))]) (fun g => g ≤ c.rows.length ∧ ∀ j, j < g → inB (nt c.rows j) 1 1000 = true) (fun g => c.rows.length - g) 0 ⟨Nat.zero_le _, fun j hj => absurd hj (by omega)⟩ (Sub.cons rfl (Sub.nil)) (fun i hg => ?_)
  obtain ⟨hg1, hg2⟩ := hg
  refine AWp.seq ?_
  refine AWp.seq ?_
  refine AWp.region ?_
  refine AList.c 4 rfl rfl rfl (OpJ.move rfl rfl) ?_
  refine AList.c 5 rfl rfl rfl (OpJ.fieldAddr rfl rfl fd24_0 rfl) ?_
  refine AList.c 6 rfl rfl rfl (OpJ.load (v := .p (intsV c.rows)) rfl rfl ty22 rfl) ?_
  refine AList.c 7 rfl rfl rfl (OpJ.lenSlice rfl rfl sl22 rfl) ?_
  refine AList.c 8 rfl rfl rfl (OpJ.lss rfl rfl rfl) ?_
  refine AList.nil ?_
  refine AWp.cond _ rfl (fun hc0 => ?_) (fun hc0 => ?_)
  · skip
    have hk0 : i < c.rows.length := by have h := of_decide_eq_true hc0; omega
    refine AWp.skip ?_
    refine AWp.seq ?_
    refine AWp.block ?_
    refine AWp.seq ?_
    refine AWp.region ?_
    refine AList.c 11 rfl rfl rfl (OpJ.fieldAddr rfl rfl fd24_0 rfl) ?_
    refine AList.c 12 rfl rfl rfl (OpJ.load (v := .p (intsV c.rows)) rfl rfl ty22 rfl) ?_
    refine AList.c 13 rfl rfl rfl (OpJ.move rfl rfl) ?_
    refine AList.c 14 rfl rfl rfl (OpJ.indexG (g := nt c.rows) nt_get rfl rfl rfl sl22 el22 rfl (fun _ => rfl) (by decide) hk0) ?_
    refine AList.c 15 rfl rfl rfl (OpJ.load (v := .p (.int .i64 (nt c.rows i))) rfl rfl ty3 rfl) ?_
    refine AList.c 16 rfl rfl rfl (OpJ.callP (rin_ok _ _ _) rfl rfl rfl rfl rf18) ?_
    refine AList.c 17 rfl rfl rfl (OpJ.not_ rfl rfl) ?_
    refine AList.nil ?_
    refine AWp.cond _ rfl (fun hc1 => ?_) (fun hc1 => ?_)
    · skip
      refine AWp.seq ?_
      refine AWp.region ?_
      refine AList.c 2 rfl rfl rfl (OpJ.assign rfl rfl) ?_
      refine AList.nil ?_
      refine AWp.ret ?_
      refine Fin.oneE rfl rfl ?_
      have hany : (c.rows.any fun n => !inB n 1 1000) = true := List.any_eq_true.2 ⟨_, nt_mem hk0, hc1⟩
      unfold crB; rw [hany]; simp
    · skip
      have hst : inB (nt c.rows i) 1 1000 = true := by simpa using hc1
      refine AWp.skip ?_
      refine AWp.region ?_
      refine AList.c 9 rfl rfl rfl (OpJ.move rfl rfl) ?_
      refine AList.c 10 rfl rfl rfl (OpJ.add rfl rfl rfl (i64ok ?_)) ?_
      · omega
      refine AList.c 3 rfl rfl rfl (OpJ.assign rfl rfl) ?_
      refine AList.nil ?_
      refine ⟨i + 1, ?_, ?_, ?_⟩
      · refine ⟨by omega, fun j hj => ?_⟩
        rcases Nat.lt_succ_iff_lt_or_eq.1 hj with h1 | rfl
        · exact hg2 j h1
        · exact hst
      · omega
      exact To.done [] rfl (by repeat (first | exact Sub.nil | refine Sub.cons rfl ?_)) rfl
  · skip
    obtain rfl : i = c.rows.length := by have h := of_decide_eq_false hc0; omega
    have hany : (c.rows.any fun n => !inB n 1 1000) = false := by
      rw [List.any_eq_false]
      intro n hn
      obtain ⟨j, hj, rfl⟩ := List.getElem_of_mem hn
      rw [nt_get j hj, hg2 j hj]
      decide
    refine AWp.exit ?_
    refine AWp.seq ?_
    refine AWp.region ?_
    refine AList.c 18 rfl rfl rfl (OpJ.fieldAddr rfl rfl fd24_0 rfl) ?_
    refine AList.c 19 rfl rfl rfl (OpJ.load (v := .p (intsV c.rows)) rfl rfl ty22 rfl) ?_
    refine AList.c 20 rfl rfl rfl (OpJ.lenSlice rfl rfl sl22 rfl) ?_
    refine AList.c 21 rfl rfl rfl (OpJ.callP (rin_ok _ _ _) rfl rfl rfl rfl rf18) ?_
    refine AList.c 22 rfl rfl rfl (OpJ.move rfl rfl) ?_
    refine AList.g 23 22 rfl rfl rfl rfl rfl rfl rfl [(1, _)] (fun h => And.intro (.inl rfl) (trivial)) (fun h => (OpJ.fieldAddr rfl rfl fd24_1 rfl)) ?_
    refine AList.g 24 22 rfl rfl rfl rfl rfl rfl rfl [(23, _)] (fun h => And.intro (.inr ⟨_, rfl, h⟩) (trivial)) (fun h => (OpJ.load (v := .p (.int .i64 c.cols)) rfl rfl ty3 rfl)) ?_
    refine AList.g 25 22 rfl rfl rfl rfl rfl rfl rfl [(24, _)] (fun h => And.intro (.inr ⟨_, rfl, h⟩) (trivial)) (fun h => (OpJ.callP (rin_ok _ _ _) rfl rfl rfl rfl rf18)) ?_
    refine AList.c 26 rfl rfl rfl (OpJ.and_ rfl rfl rfl ?_) ?_
    · first | (intro h; rw [h]; rfl) | (intro h; simp_all)
    refine AList.c 27 rfl rfl rfl (OpJ.move rfl rfl) ?_
    refine AList.g 28 27 rfl rfl rfl rfl rfl rfl rfl [(1, _)] (fun h => And.intro (.inl rfl) (trivial)) (fun h => (OpJ.fieldAddr rfl rfl fd24_2 rfl)) ?_
    refine AList.g 29 27 rfl rfl rfl rfl rfl rfl rfl [(28, _)] (fun h => And.intro (.inr ⟨_, rfl, h⟩) (trivial)) (fun h => (OpJ.load (v := .p (.int .i64 c.clamps)) rfl rfl ty3 rfl)) ?_
    refine AList.g 30 27 rfl rfl rfl rfl rfl rfl rfl [(29, _)] (fun h => And.intro (.inr ⟨_, rfl, h⟩) (trivial)) (fun h => (OpJ.callP (rin_ok _ _ _) rfl rfl rfl rfl rf18)) ?_
    refine AList.c 31 rfl rfl rfl (OpJ.and_ rfl rfl rfl ?_) ?_
    · first | (intro h; rw [h]; rfl) | (intro h; simp_all)
    refine AList.c 32 rfl rfl rfl (OpJ.move rfl rfl) ?_
    refine AList.g 33 32 rfl rfl rfl rfl rfl rfl rfl [(1, _)] (fun h => And.intro (.inl rfl) (trivial)) (fun h => (OpJ.fieldAddr rfl rfl fd24_3 rfl)) ?_
    refine AList.g 34 32 rfl rfl rfl rfl rfl rfl rfl [(33, _)] (fun h => And.intro (.inr ⟨_, rfl, h⟩) (trivial)) (fun h => (OpJ.load (v := .p (.int .i64 c.dies)) rfl rfl ty3 rfl)) ?_
    refine AList.g 35 32 rfl rfl rfl rfl rfl rfl rfl [(34, _)] (fun h => And.intro (.inr ⟨_, rfl, h⟩) (trivial)) (fun h => (OpJ.callP (rin_ok _ _ _) rfl rfl rfl rfl rf18)) ?_
    refine AList.c 36 rfl rfl rfl (OpJ.and_ rfl rfl rfl ?_) ?_
    · first | (intro h; rw [h]; rfl) | (intro h; simp_all)
    refine AList.c 2 rfl rfl rfl (OpJ.assign rfl rfl) ?_
    refine AList.nil ?_
    refine AWp.ret ?_
    refine Fin.oneE rfl rfl ?_
    unfold crB; rw [hany]; simp
theorem rlooks_ok (c : Crt) (l : List Lk) (hbl : l.length ≤ bigN) (hc : crB c = true) : Pure Tryd.prog 6 [crV c, lksV l] (.bool (l.all fun x => !wrB c x)) := by
  have hbl2 := hbl
  unfold bigN at hbl2
  refine Pure.start (N := 34) Tryd.func6 rfl rfl (Nat.le_of_ble_eq_true rfl) ?_
  refine AWp.seq ?_
  refine AWp.region ?_
  refine AList.c 2 rfl rfl rfl (OpJ.boxImm rfl rfl rfl) ?_
  refine AList.c 4 rfl rfl rfl (OpJ.assign rfl rfl) ?_
  refine AList.nil ?_
  refine AWp.seq ?_
  refine AWp.seq ?_
  refine AWp.region ?_
  refine AList.c 5 rfl rfl rfl (OpJ.assign rfl rfl) ?_
  refine AList.nil ?_
  refine AWp.block ?_
  refine AWp.loopKL [1, 2] (fun g => [(5, .p (.int .i64 ((g : Nat) : Int)))]) (fun g => g ≤ l.length ∧ ∀ j, j < g → wrB c (lkt l j) = false) (fun g => l.length - g) 0 ⟨Nat.zero_le _, fun j hj => absurd hj (by omega)⟩ (Sub.cons rfl (Sub.nil)) (fun i hg => ?_)
  obtain ⟨hg1, hg2⟩ := hg
  refine AWp.seq ?_
  refine AWp.seq ?_
  refine AWp.region ?_
  refine AList.c 6 rfl rfl rfl (OpJ.move rfl rfl) ?_
  refine AList.c 7 rfl rfl rfl (OpJ.move rfl rfl) ?_
  refine AList.c 8 rfl rfl rfl (OpJ.lenSlice rfl rfl sl25 rfl) ?_
  refine AList.c 9 rfl rfl rfl (OpJ.lss rfl rfl rfl) ?_
  refine AList.nil ?_
  refine AWp.cond _ rfl (fun hc0 => ?_) (fun hc0 => ?_)
  · skip
    have hk0 : i < l.length := by have h := of_decide_eq_true hc0; omega
    refine AWp.skip ?_
    refine AWp.seq ?_
    refine AWp.block ?_
    refine AWp.seq ?_
    refine AWp.regionDraw 22 mixed (by kernel_rfl) (by decide) ?_
    refine AQuiet.cons 12 rfl rfl rfl (OpJ.load (v := .p (crV c)) rfl rfl ty24 rfl) ?_
    refine AQuiet.cons 13 rfl rfl rfl (OpJ.move rfl rfl) ?_
    refine AQuiet.cons 14 rfl rfl rfl (OpJ.move rfl rfl) ?_
    refine AQuiet.cons 15 rfl rfl rfl (OpJ.indexG (g := lkt l) lkt_get rfl rfl rfl sl25 el25 rfl (fun _ => rfl) (by decide) hk0) ?_
    refine AQuiet.cons 16 rfl rfl rfl (OpJ.fieldAddr rfl rfl fd33_0 rfl) ?_
    refine AQuiet.cons 17 rfl rfl rfl (OpJ.load (v := .p (.int .i64 (lkt l i).r)) rfl rfl ty3 rfl) ?_
    refine AQuiet.cons 18 rfl rfl rfl (OpJ.move rfl rfl) ?_
    refine AQuiet.cons 19 rfl rfl rfl (OpJ.move rfl rfl) ?_
    refine AQuiet.cons 20 rfl rfl rfl (OpJ.indexG (g := lkt l) lkt_get rfl rfl rfl sl25 el25 rfl (fun _ => rfl) (by decide) hk0) ?_
    refine AQuiet.cons 21 rfl rfl rfl (OpJ.fieldAddr rfl rfl fd33_1 rfl) ?_
    refine AQuiet.cons 22 rfl rfl rfl (OpJ.load (v := .p (.int .i64 (lkt l i).c)) rfl rfl ty3 rfl) ?_
    refine AQuiet.cons 23 rfl rfl rfl (OpJ.callP (rplace_ok c (lkt l i).r (lkt l i).c hc) rfl rfl rfl rfl rf19) ?_
    refine AQuiet.cons 24 rfl rfl rfl (OpJ.not_ rfl rfl) ?_
    refine AQuiet.cons 25 rfl rfl rfl (OpJ.move rfl rfl) ?_
    refine AQuiet.guard 26 25 rfl rfl rfl rfl rfl rfl rfl [(1, _)] (fun h => And.intro (.inl rfl) (trivial)) (fun h => (OpJ.move rfl rfl)) ?_
    refine AQuiet.guard 27 25 rfl rfl rfl rfl rfl rfl rfl [(5, _)] (fun h => And.intro (.inl rfl) (trivial)) (fun h => (OpJ.move rfl rfl)) ?_
    refine AQuiet.guard 28 25 rfl rfl rfl rfl rfl rfl rfl [(26, _), (27, _)] (fun h => And.intro (.inr ⟨_, rfl, h⟩) (And.intro (.inr ⟨_, rfl, h⟩) (trivial))) (fun h => (OpJ.indexG (g := lkt l) lkt_get rfl rfl rfl sl25 el25 rfl (fun _ => rfl) (by decide) hk0)) ?_
    refine AQuiet.guard 29 25 rfl rfl rfl rfl rfl rfl rfl [(28, _)] (fun h => And.intro (.inr ⟨_, rfl, h⟩) (trivial)) (fun h => (OpJ.fieldAddr rfl rfl fd33_2 rfl)) ?_
    refine AQuiet.guard 30 25 rfl rfl rfl rfl rfl rfl rfl [(29, _)] (fun h => And.intro (.inr ⟨_, rfl, h⟩) (trivial)) (fun h => (OpJ.load (v := .p (.int .i64 (lkt l i).s)) rfl rfl ty3 rfl)) ?_
    refine AQuiet.guard 31 25 rfl rfl rfl rfl rfl rfl rfl [(30, _)] (fun h => And.intro (.inr ⟨_, rfl, h⟩) (trivial)) (fun h => (OpJ.callP (rin_ok _ _ _) rfl rfl rfl rfl rf18)) ?_
    refine AQuiet.guard 32 25 rfl rfl rfl rfl rfl rfl rfl [(31, _)] (fun h => And.intro (.inr ⟨_, rfl, h⟩) (trivial)) (fun h => (OpJ.not_ rfl rfl)) ?_
    refine AQuiet.cons 33 rfl rfl rfl (OpJ.or_ rfl rfl rfl ?_) ?_
    · first | (intro h; rw [h]; rfl) | (intro h; simp_all)
    refine AQuiet.nil ?_
    refine AList.nil ?_
    refine AWp.cond _ rfl (fun hc1 => ?_) (fun hc1 => ?_)
    · skip
      refine AWp.seq ?_
      refine AWp.region ?_
      refine AList.c 4 rfl rfl rfl (OpJ.assign rfl rfl) ?_
      refine AList.nil ?_
      refine AWp.ret ?_
      refine Fin.oneE rfl rfl ?_
      rw [not_all hk0 (by rw [show wrB c (lkt l i) = true from hc1]; rfl)]
    · skip
      have hst : wrB c (lkt l i) = false := hc1
      refine AWp.skip ?_
      refine AWp.region ?_
      refine AList.c 10 rfl rfl rfl (OpJ.move rfl rfl) ?_
      refine AList.c 11 rfl rfl rfl (OpJ.add rfl rfl rfl (i64ok ?_)) ?_
      · omega
      refine AList.c 5 rfl rfl rfl (OpJ.assign rfl rfl) ?_
      refine AList.nil ?_
      refine ⟨i + 1, ?_, ?_, ?_⟩
      · refine ⟨by omega, fun j hj => ?_⟩
        rcases Nat.lt_succ_iff_lt_or_eq.1 hj with h1 | rfl
        · exact hg2 j h1
        · exact hst
      · omega
      exact To.done [] rfl (by repeat (first | exact Sub.nil | refine Sub.cons rfl ?_)) rfl
  · skip
    obtain rfl : i = l.length := by have h := of_decide_eq_false hc0; omega
    refine AWp.exit ?_
    refine AWp.seq ?_
    refine AWp.region ?_
    refine AList.c 4 rfl rfl rfl (OpJ.assign rfl rfl) ?_
    refine AList.nil ?_
    refine AWp.ret ?_
    refine Fin.oneE rfl rfl ?_
    rw [all_lkt fun j hj => by rw [hg2 j hj]; rfl]
def sCr : Crt := ⟨[10, 20, 30], 4, 1, 1⟩
def sLk : List Lk := [⟨2, 1, 1⟩, ⟨2, 0, 0⟩]
def sBt : List Bat := [⟨0, 0⟩, ⟨0, 0⟩, ⟨0, 0⟩, ⟨3, 0⟩, ⟨5, 0⟩, ⟨0, 0⟩, ⟨40, 100⟩, ⟨48, 50⟩, ⟨8, 30⟩]
theorem aw1 : (opE sCr sLk, fouL sCr sLk) = (0, [3, 2, 0, 2]) := by kernel_rfl
theorem aw2 : (blR sBt 64 128, blE sBt 64 128) = (74, 0) := by kernel_rfl
theorem awp1 : Pure Tryd.prog 8 [crV sCr, lksV sLk] (.tuple [.agg [.int .i64 3, .int .i64 2, .int .i64 0, .int .i64 2], .int .i64 0]) := by
  have h := causes_ok sCr sLk (by decide) (by decide)
  obtain ⟨e1, e2⟩ := Prod.mk.inj aw1
  unfold fouC at h
  rwa [e1, e2] at h
theorem awp2 : Pure Tryd.prog 10 [batV sBt, .int .i64 64, .int .i64 128] (.tuple [.int .i64 ((74 : Nat) : Int), .int .i64 0]) := by
  have h := Blame_ok sBt 64 128 (by decide)
  obtain ⟨e1, e2⟩ := Prod.mk.inj aw2
  rwa [e1, e2] at h
theorem awake11_ok  : Pure Tryd.prog 7 [] (.bool true) := by
  refine Pure.start (N := 43) Tryd.func7 rfl rfl (Nat.le_of_ble_eq_true rfl) ?_
  refine AWp.seq ?_
  refine AWp.region ?_
  refine AList.c 0 rfl rfl rfl (OpJ.assign rfl rfl) ?_
  refine AList.nil ?_
  refine AWp.seq ?_
  refine AWp.region ?_
  refine AList.c 6 rfl rfl rfl (OpJ.buildImm rfl slz22 (by decide) rfl rfl rfl) ?_
  refine AList.c 7 rfl rfl rfl (OpJ.buildR (v := .p (crV sCr)) rfl bd24 rfl rfl rfl) ?_
  refine AList.c 8 rfl rfl rfl (OpJ.build rfl bd33 rfl rfl) ?_
  refine AList.c 9 rfl rfl rfl (OpJ.build rfl bd33 rfl rfl) ?_
  refine AList.c 10 rfl rfl rfl (OpJ.buildImm rfl slz25 (by decide) rfl rfl rfl) ?_
  refine AList.c 11 rfl rfl rfl (OpJ.callP (awp1) rfl rfl rfl rfl rf8) ?_
  refine AList.c 5 rfl rfl rfl (OpJ.move rfl rfl) ?_
  refine AList.c 12 rfl rfl rfl (OpJ.extract rfl rfl rfl) ?_
  refine AList.c 13 rfl rfl rfl (OpJ.extract rfl rfl rfl) ?_
  refine AList.c 1 rfl rfl rfl (OpJ.allocOwn rfl zr35 rfl) ?_
  refine AList.c0 rfl rfl (OpJ.store rfl rfl rfl rfl rfl ty35 rfl rfl) ?_
  refine AList.c 2 rfl rfl rfl (OpJ.assign rfl rfl) ?_
  refine AList.nil ?_
  refine AWp.seq ?_
  refine AWp.region ?_
  refine AList.c 15 rfl rfl rfl (OpJ.build rfl bd31 rfl rfl) ?_
  refine AList.c 16 rfl rfl rfl (OpJ.build rfl bd31 rfl rfl) ?_
  refine AList.c 17 rfl rfl rfl (OpJ.build rfl bd31 rfl rfl) ?_
  refine AList.c 18 rfl rfl rfl (OpJ.build rfl bd31 rfl rfl) ?_
  refine AList.c 19 rfl rfl rfl (OpJ.build rfl bd31 rfl rfl) ?_
  refine AList.c 20 rfl rfl rfl (OpJ.build rfl bd31 rfl rfl) ?_
  refine AList.c 21 rfl rfl rfl (OpJ.build rfl bd31 rfl rfl) ?_
  refine AList.c 22 rfl rfl rfl (OpJ.build rfl bd31 rfl rfl) ?_
  refine AList.c 23 rfl rfl rfl (OpJ.build rfl bd31 rfl rfl) ?_
  refine AList.c 24 rfl rfl rfl (OpJ.buildImm rfl slz29 (by decide) rfl rfl rfl) ?_
  refine AList.c 25 rfl rfl rfl (OpJ.callP (awp2) rfl rfl rfl rfl rf10) ?_
  refine AList.c 14 rfl rfl rfl (OpJ.move rfl rfl) ?_
  refine AList.c 26 rfl rfl rfl (OpJ.extract rfl rfl rfl) ?_
  refine AList.c 27 rfl rfl rfl (OpJ.extract rfl rfl rfl) ?_
  refine AList.c 3 rfl rfl rfl (OpJ.assign rfl rfl) ?_
  refine AList.c 4 rfl rfl rfl (OpJ.assign rfl rfl) ?_
  refine AList.nil ?_
  refine AWp.seq ?_
  refine AWp.region ?_
  refine AList.c 28 rfl rfl rfl (OpJ.load rfl rfl ty35 rfl) ?_
  refine AList.c 29 rfl rfl rfl (OpJ.build rfl bd35 rfl rfl) ?_
  refine AList.c 30 rfl rfl rfl (OpJ.eqAgg (d := 8) rfl (.inl rfl) rfl rfl (by decide) eq35 ty35 rfl eg35 rfl) ?_
  refine AList.c 31 rfl rfl rfl (OpJ.move rfl rfl) ?_
  refine AList.g 32 31 rfl rfl rfl rfl rfl rfl rfl [(2, _)] (fun h => And.intro (.inl rfl) (trivial)) (fun h => (OpJ.move rfl rfl)) ?_
  refine AList.g 33 31 rfl rfl rfl rfl rfl rfl rfl [(32, _)] (fun h => And.intro (.inr ⟨_, rfl, h⟩) (trivial)) (fun h => (OpJ.eql rfl rfl rfl)) ?_
  refine AList.c 34 rfl rfl rfl (OpJ.and_ rfl rfl rfl ?_) ?_
  · first | (intro h; rw [h]; rfl) | (intro h; simp_all)
  refine AList.c 35 rfl rfl rfl (OpJ.move rfl rfl) ?_
  refine AList.g 36 35 rfl rfl rfl rfl rfl rfl rfl [(3, _)] (fun h => And.intro (.inl rfl) (trivial)) (fun h => (OpJ.move rfl rfl)) ?_
  refine AList.g 37 35 rfl rfl rfl rfl rfl rfl rfl [(36, _)] (fun h => And.intro (.inr ⟨_, rfl, h⟩) (trivial)) (fun h => (OpJ.eql rfl rfl rfl)) ?_
  refine AList.c 38 rfl rfl rfl (OpJ.and_ rfl rfl rfl ?_) ?_
  · first | (intro h; rw [h]; rfl) | (intro h; simp_all)
  refine AList.c 39 rfl rfl rfl (OpJ.move rfl rfl) ?_
  refine AList.g 40 39 rfl rfl rfl rfl rfl rfl rfl [(4, _)] (fun h => And.intro (.inl rfl) (trivial)) (fun h => (OpJ.move rfl rfl)) ?_
  refine AList.g 41 39 rfl rfl rfl rfl rfl rfl rfl [(40, _)] (fun h => And.intro (.inr ⟨_, rfl, h⟩) (trivial)) (fun h => (OpJ.eql rfl rfl rfl)) ?_
  refine AList.c 42 rfl rfl rfl (OpJ.and_ rfl rfl rfl ?_) ?_
  · first | (intro h; rw [h]; rfl) | (intro h; simp_all)
  refine AList.c 0 rfl rfl rfl (OpJ.assign rfl rfl) ?_
  refine AList.nil ?_
  refine AWp.ret ?_
  exact Fin.one rfl (rfl)
end Go.Proofs.YtofenmailjdehaaDoor
