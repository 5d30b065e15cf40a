/-
  The law ShadeTrue.
-/
import Derived.Test.YthiapodcippnoaaSdFactsI
import Derived.Test.YthiapodcippnoaaSd14
import Derived.Test.YthiapodcippnoaaSdT
import Derived.Test.YthiapodcippnoaaAfM
set_option linter.unusedVariables false
set_option maxRecDepth 100000
set_option maxHeartbeats 4000000
set_option linter.unusedSimpArgs false
namespace Go.Proofs.Ythiapodcippnoaa
open Go.AF
theorem tdivN (a b : Nat) : Int.tdiv (a : Int) (b : Int) = ((a / b : Nat) : Int) := rfl
theorem u32_of {x : List PV} (h : TyL [.leaf (.int .u32)] x) : ∃ n : Nat, x = [.int .u32 (n : Int)] ∧ n ≤ 4294967295 := by
  obtain ⟨n, e, h1, h2⟩ := kint_of .u32 h
  have a1 : (0 : Int) ≤ n := h1
  have a2 : n ≤ 4294967295 := h2
  exact ⟨n.toNat, by rw [e, Int.toNat_of_nonneg a1], by omega⟩
theorem u321_of {el : List PV} (h : TyL [.leaf (.int .u32)] el) : ∃ n : { n : Nat // n ≤ 4294967295 }, el = w1 n.1 := by
  obtain ⟨n, e, h1⟩ := u32_of h
  exact ⟨⟨n, h1⟩, e⟩
theorem u32l_of {x : List PV} (h : TyL [.sl [.leaf (.int .u32)]] x) : ∃ l : List Nat, x = [.is (l.flatMap w1) l.length] ∧ l.length ≤ bigN ∧ ∀ y ∈ l, y ≤ 4294967295 := by
  obtain ⟨l, e1, e2⟩ := sl_of (f := fun y : { n : Nat // n ≤ 4294967295 } => w1 y.1) (fun el => u321_of) h
  refine ⟨l.map (·.1), ?_, by rw [List.length_map]; exact e2, fun y hy => ?_⟩
  · rw [e1, List.flatMap_map, List.length_map]
  · obtain ⟨z, _, rfl⟩ := List.mem_map.1 hy
    exact z.2
def xA (l : Lds) : List PV := [.int .i64 l.glo, .int .i64 l.ghi, .int .i64 l.clo, .int .i64 l.chi, .int .i64 l.tol]
def xB (l : Lds) : List PV := [.int .i64 l.slo, .int .i64 l.shi, .int .i64 l.wlo, .int .i64 l.whi, .int .i64 l.many]
def truX (l : Lds) (n : Nat) : Blk := .cells ((xA l).map .p ++ accV 1 n :: (xB l).map .p) 28
theorem truX_ren {σ : Nat → Option Nat} (h : σ 1 = some 1) (l : Lds) (n : Nat) : renB σ (truX l n) = truX l n := by
  unfold truX
  simp only [renB, renL_app, renL_pure, renL, renV_acc h]
theorem pick_ok (lo hi : Int) (y : Nat) (h : lo ≤ hi) (h1 : -1073741824 ≤ lo) (h2 : hi ≤ 1073741824) (hy : y ≤ 4294967295) : Pure Try.prog 31 [.agg [.int .i64 lo, .int .i64 hi], .int .u32 (y : Int)] (.int .i64 (pickI lo hi y)) := by
  have hm := Nat.mod_lt y (show 0 < (hi - lo + 1).toNat by omega)
  refine Pure.start (N := 17) Try.func31 rfl rfl (Nat.le_of_ble_eq_true rfl) ?_
  refine AWp.seq ?_
  refine AWp.region ?_
  refine AList.c 2 rfl rfl rfl (OpJ.boxImm rfl rfl rfl) ?_
  refine AList.c 4 rfl rfl rfl (OpJ.assign rfl rfl) ?_
  refine AList.nil ?_
  refine AWp.seq ?_
  refine AWp.regionDraw 13 mixed (by kernel_rfl) (by decide) ?_
  refine AQuiet.cons 5 rfl rfl rfl (OpJ.fieldAddr rfl rfl fd25_0 rfl) ?_
  refine AQuiet.cons 6 rfl rfl rfl (OpJ.load rfl rfl ty3 rfl) ?_
  refine AQuiet.cons 7 rfl rfl rfl (OpJ.move rfl rfl) ?_
  refine AQuiet.cons 8 rfl rfl rfl (OpJ.convInt rfl rfl (by rw [un64]; rfl) un3 (i64ok ?_)) ?_
  · omega
  refine AQuiet.cons 9 rfl rfl rfl (OpJ.fieldAddr rfl rfl fd25_1 rfl) ?_
  refine AQuiet.cons 10 rfl rfl rfl (OpJ.load rfl rfl ty3 rfl) ?_
  refine AQuiet.cons 11 rfl rfl rfl (OpJ.fieldAddr rfl rfl fd25_0 rfl) ?_
  refine AQuiet.cons 12 rfl rfl rfl (OpJ.load rfl rfl ty3 rfl) ?_
  refine AQuiet.cons 13 rfl rfl rfl (OpJ.sub_ rfl rfl rfl (i64ok ?_)) ?_
  · omega
  refine AQuiet.cons 14 rfl rfl rfl (OpJ.add (m := (((hi - lo + 1).toNat : Nat) : Int)) rfl rfl rfl ((i64ok ?_).trans ?_)) ?_
  · omega
  · omega
  refine AQuiet.cons 15 rfl rfl rfl (OpJ.rem (m := ((y % (hi - lo + 1).toNat : Nat) : Int)) rfl rfl rfl ?_ ?_) ?_
  · omega
  · exact tmodN _ _
  refine AQuiet.cons 16 rfl rfl rfl (OpJ.add rfl rfl rfl (i64ok ?_)) ?_
  · omega
  refine AQuiet.cons 4 rfl rfl rfl (OpJ.assign rfl rfl) ?_
  refine AQuiet.nil ?_
  refine AList.nil ?_
  refine AWp.ret ?_
  exact Fin.one rfl (rfl)
theorem truth_ok (c : List Tnt) (l : Lds) (ys : List Nat) (hc : okC c) (hl : OkL l) (hy0 : 0 < ys.length) (hyn : ys.length ≤ bigN) (hys : ∀ y ∈ ys, y ≤ 4294967295) : Pure Try.prog 30 [curV c, ldV l, (.is (ys.flatMap w1) ys.length)] (.tuple [.int .i64 (truR c (truW l ys)).1, .bool (truR c (truW l ys)).2]) := by
  have hyB := fun i => wt_B hys i
  have hyn2 := hyn
  unfold bigN at hyn2
  have lg := hl.g
  have lc := hl.c
  have lt := hl.t
  have bp := pickI_B lg.2.1 (wt ys 0)
  have bq := pickI_B lc.2.1 (wt ys (ys.length - 1))
  have bm := pickI_B (lo := 0 - l.tol) (hi := l.tol) (by omega) (wt ys (ys.length / 2))
  have p1 := pick_ok l.glo l.ghi (wt ys 0) (by omega) (by omega) (by omega) (hyB 0)
  have p2 := pick_ok l.clo l.chi (wt ys (ys.length - 1)) (by omega) (by omega) (by omega) (hyB _)
  have p3 := pick_ok (0 - l.tol) l.tol (wt ys (ys.length / 2)) (by omega) (by omega) (by omega) (hyB _)
  obtain ⟨w, hw⟩ : ∃ w, w = truW l ys := ⟨_, rfl⟩
  have ep : pickI l.glo l.ghi (wt ys 0) = w.p := by rw [hw]; rfl
  have eq : pickI l.clo l.chi (wt ys (ys.length - 1)) = w.q := by rw [hw]; rfl
  have em : pickI (0 - l.tol) l.tol (wt ys (ys.length / 2)) = w.m := by rw [hw, show 0 - l.tol = -l.tol by omega]; rfl
  have ey : wt ys 0 = w.y := by rw [hw]; rfl
  rw [← hw]
  rw [ep] at bp p1
  rw [eq] at bq p2
  rw [em] at bm p3
  have f := frac_ok hc (g := w.p) (cl := w.q) (by omega) (by omega) (by omega) (by omega)
  have p4 := at_ok c w.p w.q hc (by omega) (by omega) (by omega) (by omega)
  obtain ⟨t, ht⟩ : ∃ t, t = topI c w.p w.q := ⟨_, rfl⟩
  obtain ⟨u, hu⟩ : ∃ u, u = undI c w.p w.q := ⟨_, rfl⟩
  rw [← ht, ← hu] at p4
  have fu := f.u
  have ft := f.t
  rw [← hu] at fu ft
  rw [← ht] at ft
  have bu := upI_B (t := t) (u := u) (B := 200) fu.1 ft.1 ft.2
  have bd := dnI_B (t := t) (u := u) (B := 200) fu.1 ft.1 ft.2
  refine Pure.start (N := 75) Try.func30 rfl rfl (Nat.le_of_ble_eq_true rfl) ?_
  refine AWp.seq ?_
  refine AWp.region ?_
  refine AList.c 4 rfl rfl rfl (OpJ.boxImm rfl rfl rfl) ?_
  refine AList.c 6 rfl rfl rfl (OpJ.assign rfl rfl) ?_
  refine AList.c 7 rfl rfl rfl (OpJ.assign rfl rfl) ?_
  refine AList.nil ?_
  refine AWp.seq ?_
  refine AWp.regionDrawG 18 1 [0] [([], false), ([], false), ([], false), ([], false), ([], false), ([], false), ([], false), ([], false), ([], false), ([], false), ([], false), ([], false), ([], false), ([], false), ([], false), ([], false), ([], false), ([0], true)] mixed (by kernel_rfl) (by decide) (by kernel_rfl) rfl rfl ?_
  refine AQG.cons 11 rfl rfl rfl (fun _ => (OpJ.move rfl rfl)) rfl ?_
  refine AQG.cons 12 rfl rfl rfl (fun _ => (OpJ.fieldAddr rfl rfl fd28_0 rfl)) rfl ?_
  refine AQG.cons 13 rfl rfl rfl (fun _ => (OpJ.load rfl rfl ty25 rfl)) rfl ?_
  refine AQG.cons 14 rfl rfl rfl (fun _ => (OpJ.move rfl rfl)) rfl ?_
  refine AQG.cons 15 rfl rfl rfl (fun _ => (OpJ.indexG (g := wt ys) (k := 0) (fun k h => wt_get ys k h) rfl rfl rfl sl58 el58 rfl (fun _ => rfl) (by decide) hy0)) rfl ?_
  refine AQG.cons 16 rfl rfl rfl (fun _ => (OpJ.load rfl rfl ty64 rfl)) rfl ?_
  refine AQG.cons 17 rfl rfl rfl (fun _ => (OpJ.callP (p1) rfl rfl rfl rfl rf31)) rfl ?_
  refine AQG.cons 18 rfl rfl rfl (fun _ => (OpJ.fieldAddr rfl rfl fd28_1 rfl)) rfl ?_
  refine AQG.cons 19 rfl rfl rfl (fun _ => (OpJ.load rfl rfl ty25 rfl)) rfl ?_
  refine AQG.cons 20 rfl rfl rfl (fun _ => (OpJ.move rfl rfl)) rfl ?_
  refine AQG.cons 21 rfl rfl rfl (fun _ => (OpJ.move rfl rfl)) rfl ?_
  refine AQG.cons 22 rfl rfl rfl (fun _ => (OpJ.lenSlice rfl rfl sl58 rfl)) rfl ?_
  refine AQG.cons 23 rfl rfl rfl (fun _ => (OpJ.sub_ (m := ((ys.length - 1 : Nat) : Int)) rfl rfl rfl ((i64ok ?_).trans ?_))) rfl ?_
  · omega
  · omega
  refine AQG.cons 24 rfl rfl rfl (fun _ => (OpJ.indexG (g := wt ys) (fun k h => wt_get ys k h) rfl rfl rfl sl58 el58 rfl (fun _ => rfl) (by decide) (by omega))) rfl ?_
  refine AQG.cons 25 rfl rfl rfl (fun _ => (OpJ.load rfl rfl ty64 rfl)) rfl ?_
  refine AQG.cons 26 rfl rfl rfl (fun _ => (OpJ.callP (p2) rfl rfl rfl rfl rf31)) rfl ?_
  refine AQG.cons 27 rfl rfl rfl (fun _ => (OpJ.callP (p4) rfl rfl rfl rfl rf63)) rfl ?_
  refine AQG.lay (v0 := .ptr 1 0) 8 0 rfl rfl rfl rfl rfl rfl rfl rfl (fun _ => (OpJ.allocOwn rfl zr119 rfl)) rfl rfl rfl ?_
  refine AQG.nil ?_
  refine AList.c0 rfl rfl (OpJ.store rfl rfl rfl rfl rfl ty119 rfl rfl) ?_
  refine AList.nil ?_
  refine AWp.seq ?_
  refine AWp.region ?_
  refine AList.c 28 rfl rfl rfl (OpJ.load rfl rfl ty119 rfl) ?_
  refine AList.c 29 rfl rfl rfl (OpJ.callP (rup_ok t u (by omega) (by omega) (by omega) (by omega)) rfl rfl rfl rfl rf64) ?_
  refine AList.c 9 rfl rfl rfl (OpJ.assign rfl rfl) ?_
  refine AList.nil ?_
  refine AWp.seq ?_
  refine AWp.seq ?_
  refine AWp.region ?_
  refine AList.c 30 rfl rfl rfl (OpJ.move rfl rfl) ?_
  refine AList.c 31 rfl rfl rfl (OpJ.indexG (g := wt ys) (k := 0) (fun k h => wt_get ys k h) rfl rfl rfl sl58 el58 rfl (fun _ => rfl) (by decide) hy0) ?_
  refine AList.c 32 rfl rfl rfl (OpJ.load rfl rfl ty64 rfl) ?_
  refine AList.c 33 rfl rfl rfl (OpJ.rem (m := ((wt ys 0 % 2 : Nat) : Int)) rfl rfl rfl ?_ ?_) ?_
  · decide
  · exact tmodN _ _
  refine AList.c 34 rfl rfl rfl (OpJ.eql rfl rfl rfl) ?_
  refine AList.nil ?_
  refine AWp.cond _ rfl (fun hc0 => ?_) (fun hc0 => ?_)
  · skip
    refine AWp.region ?_
    refine AList.c 35 rfl rfl rfl (OpJ.load rfl rfl ty119 rfl) ?_
    refine AList.c 36 rfl rfl rfl (OpJ.callP (rdown_ok t u (by omega) (by omega) (by omega) (by omega)) rfl rfl rfl rfl rf65) ?_
    refine AList.c 9 rfl rfl rfl (OpJ.assign rfl rfl) ?_
    refine AList.nil ?_
    refine AWp.seq ?_
    refine AWp.regionDraw 14 mixed (by kernel_rfl) (by decide) ?_
    refine AQuiet.cons 37 rfl rfl rfl (OpJ.fieldAddr rfl rfl fd28_2 rfl) ?_
    refine AQuiet.cons 38 rfl rfl rfl (OpJ.load rfl rfl ty3 rfl) ?_
    refine AQuiet.cons 39 rfl rfl rfl (OpJ.neg rfl rfl (i64ok ?_)) ?_
    · omega
    refine AQuiet.cons 40 rfl rfl rfl (OpJ.fieldAddr rfl rfl fd28_2 rfl) ?_
    refine AQuiet.cons 41 rfl rfl rfl (OpJ.load rfl rfl ty3 rfl) ?_
    refine AQuiet.cons 42 rfl rfl rfl (OpJ.callP (lspan_ok _ _) rfl rfl rfl rfl rf25) ?_
    refine AQuiet.cons 43 rfl rfl rfl (OpJ.move rfl rfl) ?_
    refine AQuiet.cons 44 rfl rfl rfl (OpJ.move rfl rfl) ?_
    refine AQuiet.cons 45 rfl rfl rfl (OpJ.lenSlice rfl rfl sl58 rfl) ?_
    refine AQuiet.cons 46 rfl rfl rfl (OpJ.quo (m := ((ys.length / 2 : Nat) : Int)) rfl rfl rfl (by decide) ((i64ok (by show _ ≤ ((ys.length / 2 : Nat) : Int) ∧ ((ys.length / 2 : Nat) : Int) ≤ _; omega)).trans (tdivN _ _))) ?_
    refine AQuiet.cons 47 rfl rfl rfl (OpJ.indexG (g := wt ys) (fun k h => wt_get ys k h) rfl rfl rfl sl58 el58 rfl (fun _ => rfl) (by decide) (by omega)) ?_
    refine AQuiet.cons 48 rfl rfl rfl (OpJ.load rfl rfl ty64 rfl) ?_
    refine AQuiet.cons 49 rfl rfl rfl (OpJ.callP (p3) rfl rfl rfl rfl rf31) ?_
    refine AQuiet.cons 10 rfl rfl rfl (OpJ.assign rfl rfl) ?_
    refine AQuiet.nil ?_
    refine AList.nil ?_
    refine AWp.seq ?_
    refine AWp.seq ?_
    refine AWp.region ?_
    refine AList.c 50 rfl rfl rfl (OpJ.move rfl rfl) ?_
    refine AList.c 51 rfl rfl rfl (OpJ.lss rfl rfl rfl) ?_
    refine AList.nil ?_
    refine AWp.cond _ rfl (fun hc1 => ?_) (fun hc1 => ?_)
    · skip
      have hm1 : w.m < 0 := of_decide_eq_true hc1
      have hT : truR c w = (upI t u + w.m, decide (0 ≤ upI t u + w.m) && decide (upI t u + w.m ≤ 200)) := by unfold truR truB truN truT truU; rw [← ht, ← hu]; rw [if_pos (decide_eq_true (by omega)), if_pos hm1]
      refine AWp.region ?_
      refine AList.c 52 rfl rfl rfl (OpJ.load rfl rfl ty119 rfl) ?_
      refine AList.c 53 rfl rfl rfl (OpJ.callP (rup_ok t u (by omega) (by omega) (by omega) (by omega)) rfl rfl rfl rfl rf64) ?_
      refine AList.c 54 rfl rfl rfl (OpJ.move rfl rfl) ?_
      refine AList.c 55 rfl rfl rfl (OpJ.add rfl rfl rfl (i64ok ?_)) ?_
      · omega
      refine AList.c 9 rfl rfl rfl (OpJ.assign rfl rfl) ?_
      refine AList.nil ?_
      refine AWp.seq ?_
      refine AWp.region ?_
      refine AList.c 68 rfl rfl rfl (OpJ.move rfl rfl) ?_
      refine AList.c 69 rfl rfl rfl (OpJ.move rfl rfl) ?_
      refine AList.c 70 rfl rfl rfl (OpJ.geq rfl rfl rfl) ?_
      refine AList.c 71 rfl rfl rfl (OpJ.move rfl rfl) ?_
      refine AList.g 72 71 rfl rfl rfl rfl rfl rfl rfl [(9, _)] (fun h => And.intro (.inl rfl) (trivial)) (fun h => (OpJ.move rfl rfl)) ?_
      refine AList.g 73 71 rfl rfl rfl rfl rfl rfl rfl [(72, _)] (fun h => And.intro (.inr ⟨_, rfl, h⟩) (trivial)) (fun h => (OpJ.leq rfl rfl rfl)) ?_
      refine AList.c 74 rfl rfl rfl (OpJ.and_ rfl rfl rfl ?_) ?_
      · first | (intro h; rw [h]; rfl) | (intro h; simp_all)
      refine AList.c 6 rfl rfl rfl (OpJ.assign rfl rfl) ?_
      refine AList.c 7 rfl rfl rfl (OpJ.assign rfl rfl) ?_
      refine AList.nil ?_
      refine AWp.ret ?_
      rw [hT]
      exact Fin.many (xs := [.int .i64 _, .bool _]) rfl (⟨_, _, rfl, rfl, ⟨_, _, rfl, rfl, rfl⟩⟩) rfl
    · skip
      have hm1 : ¬ w.m < 0 := of_decide_eq_false hc1
      refine AWp.seq ?_
      refine AWp.region ?_
      refine AList.c 56 rfl rfl rfl (OpJ.move rfl rfl) ?_
      refine AList.c 57 rfl rfl rfl (OpJ.gtr rfl rfl rfl) ?_
      refine AList.nil ?_
      refine AWp.cond _ rfl (fun hc2 => ?_) (fun hc2 => ?_)
      · skip
        have hm2 : 0 < w.m := of_decide_eq_true hc2
        have hT : truR c w = (dnI t u + w.m, decide (0 ≤ dnI t u + w.m) && decide (dnI t u + w.m ≤ 200)) := by unfold truR truB truN truT truU; rw [← ht, ← hu]; rw [if_pos (decide_eq_true (by omega)), if_neg hm1, if_pos hm2]
        refine AWp.region ?_
        refine AList.c 58 rfl rfl rfl (OpJ.load rfl rfl ty119 rfl) ?_
        refine AList.c 59 rfl rfl rfl (OpJ.callP (rdown_ok t u (by omega) (by omega) (by omega) (by omega)) rfl rfl rfl rfl rf65) ?_
        refine AList.c 60 rfl rfl rfl (OpJ.move rfl rfl) ?_
        refine AList.c 61 rfl rfl rfl (OpJ.add rfl rfl rfl (i64ok ?_)) ?_
        · omega
        refine AList.c 9 rfl rfl rfl (OpJ.assign rfl rfl) ?_
        refine AList.nil ?_
        refine AWp.seq ?_
        refine AWp.region ?_
        refine AList.c 68 rfl rfl rfl (OpJ.move rfl rfl) ?_
        refine AList.c 69 rfl rfl rfl (OpJ.move rfl rfl) ?_
        refine AList.c 70 rfl rfl rfl (OpJ.geq rfl rfl rfl) ?_
        refine AList.c 71 rfl rfl rfl (OpJ.move rfl rfl) ?_
        refine AList.g 72 71 rfl rfl rfl rfl rfl rfl rfl [(9, _)] (fun h => And.intro (.inl rfl) (trivial)) (fun h => (OpJ.move rfl rfl)) ?_
        refine AList.g 73 71 rfl rfl rfl rfl rfl rfl rfl [(72, _)] (fun h => And.intro (.inr ⟨_, rfl, h⟩) (trivial)) (fun h => (OpJ.leq rfl rfl rfl)) ?_
        refine AList.c 74 rfl rfl rfl (OpJ.and_ rfl rfl rfl ?_) ?_
        · first | (intro h; rw [h]; rfl) | (intro h; simp_all)
        refine AList.c 6 rfl rfl rfl (OpJ.assign rfl rfl) ?_
        refine AList.c 7 rfl rfl rfl (OpJ.assign rfl rfl) ?_
        refine AList.nil ?_
        refine AWp.ret ?_
        rw [hT]
        exact Fin.many (xs := [.int .i64 _, .bool _]) rfl (⟨_, _, rfl, rfl, ⟨_, _, rfl, rfl, rfl⟩⟩) rfl
      · skip
        have hm2 : ¬ 0 < w.m := of_decide_eq_false hc2
        refine AWp.seq ?_
        refine AWp.region ?_
        refine AList.c 62 rfl rfl rfl (OpJ.fieldAddr rfl rfl fd119_0 rfl) ?_
        refine AList.c 63 rfl rfl rfl (OpJ.load rfl rfl ty3 rfl) ?_
        refine AList.c 64 rfl rfl rfl (OpJ.fieldAddr rfl rfl fd119_1 rfl) ?_
        refine AList.c 65 rfl rfl rfl (OpJ.load rfl rfl ty3 rfl) ?_
        refine AList.c 66 rfl rfl rfl (OpJ.rem (m := (t % u)) rfl rfl rfl ?_ ?_) ?_
        · omega
        · exact Int.tmod_eq_emod_of_nonneg ft.1
        refine AList.c 67 rfl rfl rfl (OpJ.neq rfl rfl rfl) ?_
        refine AList.nil ?_
        refine AWp.cond _ rfl (fun hc3 => ?_) (fun hc3 => ?_)
        · skip
          have hz : t % u ≠ 0 := by simpa using hc3
          have hT : truR c w = (0, false) := by unfold truR truB truT truU; rw [← ht, ← hu]; rw [if_neg (by rw [decide_eq_false (by simp only [Decidable.not_not]; exact ⟨by omega, hz⟩)]; decide)]
          refine AWp.seq ?_
          refine AWp.region ?_
          refine AList.c 6 rfl rfl rfl (OpJ.assign rfl rfl) ?_
          refine AList.c 7 rfl rfl rfl (OpJ.assign rfl rfl) ?_
          refine AList.nil ?_
          refine AWp.ret ?_
          rw [hT]
          exact Fin.many (xs := [.int .i64 0, .bool false]) rfl (⟨_, _, rfl, rfl, ⟨_, _, rfl, rfl, rfl⟩⟩) rfl
        · skip
          have hz : t % u = 0 := by simpa using hc3
          have hy2 :  w.y % 2 = 0 := by rw [← ey]; simp at hc0; omega
          have hT : truR c w = (dnI t u, decide (0 ≤ dnI t u) && decide (dnI t u ≤ 200)) := by unfold truR truB truN truT truU; rw [← ht, ← hu]; rw [if_pos (decide_eq_true (by omega)), if_neg hm1, if_neg hm2, if_pos hy2]
          refine AWp.skip ?_
          refine AWp.seq ?_
          refine AWp.region ?_
          refine AList.c 68 rfl rfl rfl (OpJ.move rfl rfl) ?_
          refine AList.c 69 rfl rfl rfl (OpJ.move rfl rfl) ?_
          refine AList.c 70 rfl rfl rfl (OpJ.geq rfl rfl rfl) ?_
          refine AList.c 71 rfl rfl rfl (OpJ.move rfl rfl) ?_
          refine AList.g 72 71 rfl rfl rfl rfl rfl rfl rfl [(9, _)] (fun h => And.intro (.inl rfl) (trivial)) (fun h => (OpJ.move rfl rfl)) ?_
          refine AList.g 73 71 rfl rfl rfl rfl rfl rfl rfl [(72, _)] (fun h => And.intro (.inr ⟨_, rfl, h⟩) (trivial)) (fun h => (OpJ.leq rfl rfl rfl)) ?_
          refine AList.c 74 rfl rfl rfl (OpJ.and_ rfl rfl rfl ?_) ?_
          · first | (intro h; rw [h]; rfl) | (intro h; simp_all)
          refine AList.c 6 rfl rfl rfl (OpJ.assign rfl rfl) ?_
          refine AList.c 7 rfl rfl rfl (OpJ.assign rfl rfl) ?_
          refine AList.nil ?_
          refine AWp.ret ?_
          rw [hT]
          exact Fin.many (xs := [.int .i64 _, .bool _]) rfl (⟨_, _, rfl, rfl, ⟨_, _, rfl, rfl, rfl⟩⟩) rfl
  · skip
    refine AWp.skip ?_
    refine AWp.seq ?_
    refine AWp.regionDraw 14 mixed (by kernel_rfl) (by decide) ?_
    refine AQuiet.cons 37 rfl rfl rfl (OpJ.fieldAddr rfl rfl fd28_2 rfl) ?_
    refine AQuiet.cons 38 rfl rfl rfl (OpJ.load rfl rfl ty3 rfl) ?_
    refine AQuiet.cons 39 rfl rfl rfl (OpJ.neg rfl rfl (i64ok ?_)) ?_
    · omega
    refine AQuiet.cons 40 rfl rfl rfl (OpJ.fieldAddr rfl rfl fd28_2 rfl) ?_
    refine AQuiet.cons 41 rfl rfl rfl (OpJ.load rfl rfl ty3 rfl) ?_
    refine AQuiet.cons 42 rfl rfl rfl (OpJ.callP (lspan_ok _ _) rfl rfl rfl rfl rf25) ?_
    refine AQuiet.cons 43 rfl rfl rfl (OpJ.move rfl rfl) ?_
    refine AQuiet.cons 44 rfl rfl rfl (OpJ.move rfl rfl) ?_
    refine AQuiet.cons 45 rfl rfl rfl (OpJ.lenSlice rfl rfl sl58 rfl) ?_
    refine AQuiet.cons 46 rfl rfl rfl (OpJ.quo (m := ((ys.length / 2 : Nat) : Int)) rfl rfl rfl (by decide) ((i64ok (by show _ ≤ ((ys.length / 2 : Nat) : Int) ∧ ((ys.length / 2 : Nat) : Int) ≤ _; omega)).trans (tdivN _ _))) ?_
    refine AQuiet.cons 47 rfl rfl rfl (OpJ.indexG (g := wt ys) (fun k h => wt_get ys k h) rfl rfl rfl sl58 el58 rfl (fun _ => rfl) (by decide) (by omega)) ?_
    refine AQuiet.cons 48 rfl rfl rfl (OpJ.load rfl rfl ty64 rfl) ?_
    refine AQuiet.cons 49 rfl rfl rfl (OpJ.callP (p3) rfl rfl rfl rfl rf31) ?_
    refine AQuiet.cons 10 rfl rfl rfl (OpJ.assign rfl rfl) ?_
    refine AQuiet.nil ?_
    refine AList.nil ?_
    refine AWp.seq ?_
    refine AWp.seq ?_
    refine AWp.region ?_
    refine AList.c 50 rfl rfl rfl (OpJ.move rfl rfl) ?_
    refine AList.c 51 rfl rfl rfl (OpJ.lss rfl rfl rfl) ?_
    refine AList.nil ?_
    refine AWp.cond _ rfl (fun hc1 => ?_) (fun hc1 => ?_)
    · skip
      have hm1 : w.m < 0 := of_decide_eq_true hc1
      have hT : truR c w = (upI t u + w.m, decide (0 ≤ upI t u + w.m) && decide (upI t u + w.m ≤ 200)) := by unfold truR truB truN truT truU; rw [← ht, ← hu]; rw [if_pos (decide_eq_true (by omega)), if_pos hm1]
      refine AWp.region ?_
      refine AList.c 52 rfl rfl rfl (OpJ.load rfl rfl ty119 rfl) ?_
      refine AList.c 53 rfl rfl rfl (OpJ.callP (rup_ok t u (by omega) (by omega) (by omega) (by omega)) rfl rfl rfl rfl rf64) ?_
      refine AList.c 54 rfl rfl rfl (OpJ.move rfl rfl) ?_
      refine AList.c 55 rfl rfl rfl (OpJ.add rfl rfl rfl (i64ok ?_)) ?_
      · omega
      refine AList.c 9 rfl rfl rfl (OpJ.assign rfl rfl) ?_
      refine AList.nil ?_
      refine AWp.seq ?_
      refine AWp.region ?_
      refine AList.c 68 rfl rfl rfl (OpJ.move rfl rfl) ?_
      refine AList.c 69 rfl rfl rfl (OpJ.move rfl rfl) ?_
      refine AList.c 70 rfl rfl rfl (OpJ.geq rfl rfl rfl) ?_
      refine AList.c 71 rfl rfl rfl (OpJ.move rfl rfl) ?_
      refine AList.g 72 71 rfl rfl rfl rfl rfl rfl rfl [(9, _)] (fun h => And.intro (.inl rfl) (trivial)) (fun h => (OpJ.move rfl rfl)) ?_
      refine AList.g 73 71 rfl rfl rfl rfl rfl rfl rfl [(72, _)] (fun h => And.intro (.inr ⟨_, rfl, h⟩) (trivial)) (fun h => (OpJ.leq rfl rfl rfl)) ?_
      refine AList.c 74 rfl rfl rfl (OpJ.and_ rfl rfl rfl ?_) ?_
      · first | (intro h; rw [h]; rfl) | (intro h; simp_all)
      refine AList.c 6 rfl rfl rfl (OpJ.assign rfl rfl) ?_
      refine AList.c 7 rfl rfl rfl (OpJ.assign rfl rfl) ?_
      refine AList.nil ?_
      refine AWp.ret ?_
      rw [hT]
      exact Fin.many (xs := [.int .i64 _, .bool _]) rfl (⟨_, _, rfl, rfl, ⟨_, _, rfl, rfl, rfl⟩⟩) rfl
    · skip
      have hm1 : ¬ w.m < 0 := of_decide_eq_false hc1
      refine AWp.seq ?_
      refine AWp.region ?_
      refine AList.c 56 rfl rfl rfl (OpJ.move rfl rfl) ?_
      refine AList.c 57 rfl rfl rfl (OpJ.gtr rfl rfl rfl) ?_
      refine AList.nil ?_
      refine AWp.cond _ rfl (fun hc2 => ?_) (fun hc2 => ?_)
      · skip
        have hm2 : 0 < w.m := of_decide_eq_true hc2
        have hT : truR c w = (dnI t u + w.m, decide (0 ≤ dnI t u + w.m) && decide (dnI t u + w.m ≤ 200)) := by unfold truR truB truN truT truU; rw [← ht, ← hu]; rw [if_pos (decide_eq_true (by omega)), if_neg hm1, if_pos hm2]
        refine AWp.region ?_
        refine AList.c 58 rfl rfl rfl (OpJ.load rfl rfl ty119 rfl) ?_
        refine AList.c 59 rfl rfl rfl (OpJ.callP (rdown_ok t u (by omega) (by omega) (by omega) (by omega)) rfl rfl rfl rfl rf65) ?_
        refine AList.c 60 rfl rfl rfl (OpJ.move rfl rfl) ?_
        refine AList.c 61 rfl rfl rfl (OpJ.add rfl rfl rfl (i64ok ?_)) ?_
        · omega
        refine AList.c 9 rfl rfl rfl (OpJ.assign rfl rfl) ?_
        refine AList.nil ?_
        refine AWp.seq ?_
        refine AWp.region ?_
        refine AList.c 68 rfl rfl rfl (OpJ.move rfl rfl) ?_
        refine AList.c 69 rfl rfl rfl (OpJ.move rfl rfl) ?_
        refine AList.c 70 rfl rfl rfl (OpJ.geq rfl rfl rfl) ?_
        refine AList.c 71 rfl rfl rfl (OpJ.move rfl rfl) ?_
        refine AList.g 72 71 rfl rfl rfl rfl rfl rfl rfl [(9, _)] (fun h => And.intro (.inl rfl) (trivial)) (fun h => (OpJ.move rfl rfl)) ?_
        refine AList.g 73 71 rfl rfl rfl rfl rfl rfl rfl [(72, _)] (fun h => And.intro (.inr ⟨_, rfl, h⟩) (trivial)) (fun h => (OpJ.leq rfl rfl rfl)) ?_
        refine AList.c 74 rfl rfl rfl (OpJ.and_ rfl rfl rfl ?_) ?_
        · first | (intro h; rw [h]; rfl) | (intro h; simp_all)
        refine AList.c 6 rfl rfl rfl (OpJ.assign rfl rfl) ?_
        refine AList.c 7 rfl rfl rfl (OpJ.assign rfl rfl) ?_
        refine AList.nil ?_
        refine AWp.ret ?_
        rw [hT]
        exact Fin.many (xs := [.int .i64 _, .bool _]) rfl (⟨_, _, rfl, rfl, ⟨_, _, rfl, rfl, rfl⟩⟩) rfl
      · skip
        have hm2 : ¬ 0 < w.m := of_decide_eq_false hc2
        refine AWp.seq ?_
        refine AWp.region ?_
        refine AList.c 62 rfl rfl rfl (OpJ.fieldAddr rfl rfl fd119_0 rfl) ?_
        refine AList.c 63 rfl rfl rfl (OpJ.load rfl rfl ty3 rfl) ?_
        refine AList.c 64 rfl rfl rfl (OpJ.fieldAddr rfl rfl fd119_1 rfl) ?_
        refine AList.c 65 rfl rfl rfl (OpJ.load rfl rfl ty3 rfl) ?_
        refine AList.c 66 rfl rfl rfl (OpJ.rem (m := (t % u)) rfl rfl rfl ?_ ?_) ?_
        · omega
        · exact Int.tmod_eq_emod_of_nonneg ft.1
        refine AList.c 67 rfl rfl rfl (OpJ.neq rfl rfl rfl) ?_
        refine AList.nil ?_
        refine AWp.cond _ rfl (fun hc3 => ?_) (fun hc3 => ?_)
        · skip
          have hz : t % u ≠ 0 := by simpa using hc3
          have hT : truR c w = (0, false) := by unfold truR truB truT truU; rw [← ht, ← hu]; rw [if_neg (by rw [decide_eq_false (by simp only [Decidable.not_not]; exact ⟨by omega, hz⟩)]; decide)]
          refine AWp.seq ?_
          refine AWp.region ?_
          refine AList.c 6 rfl rfl rfl (OpJ.assign rfl rfl) ?_
          refine AList.c 7 rfl rfl rfl (OpJ.assign rfl rfl) ?_
          refine AList.nil ?_
          refine AWp.ret ?_
          rw [hT]
          exact Fin.many (xs := [.int .i64 0, .bool false]) rfl (⟨_, _, rfl, rfl, ⟨_, _, rfl, rfl, rfl⟩⟩) rfl
        · skip
          have hz : t % u = 0 := by simpa using hc3
          have hy2 : ¬ w.y % 2 = 0 := by rw [← ey]; simp at hc0; omega
          have hT : truR c w = (upI t u, decide (0 ≤ upI t u) && decide (upI t u ≤ 200)) := by unfold truR truB truN truT truU; rw [← ht, ← hu]; rw [if_pos (decide_eq_true (by omega)), if_neg hm1, if_neg hm2, if_neg hy2]
          refine AWp.skip ?_
          refine AWp.seq ?_
          refine AWp.region ?_
          refine AList.c 68 rfl rfl rfl (OpJ.move rfl rfl) ?_
          refine AList.c 69 rfl rfl rfl (OpJ.move rfl rfl) ?_
          refine AList.c 70 rfl rfl rfl (OpJ.geq rfl rfl rfl) ?_
          refine AList.c 71 rfl rfl rfl (OpJ.move rfl rfl) ?_
          refine AList.g 72 71 rfl rfl rfl rfl rfl rfl rfl [(9, _)] (fun h => And.intro (.inl rfl) (trivial)) (fun h => (OpJ.move rfl rfl)) ?_
          refine AList.g 73 71 rfl rfl rfl rfl rfl rfl rfl [(72, _)] (fun h => And.intro (.inr ⟨_, rfl, h⟩) (trivial)) (fun h => (OpJ.leq rfl rfl rfl)) ?_
          refine AList.c 74 rfl rfl rfl (OpJ.and_ rfl rfl rfl ?_) ?_
          · first | (intro h; rw [h]; rfl) | (intro h; simp_all)
          refine AList.c 6 rfl rfl rfl (OpJ.assign rfl rfl) ?_
          refine AList.c 7 rfl rfl rfl (OpJ.assign rfl rfl) ?_
          refine AList.nil ?_
          refine AWp.ret ?_
          rw [hT]
          exact Fin.many (xs := [.int .i64 _, .bool _]) rfl (⟨_, _, rfl, rfl, ⟨_, _, rfl, rfl, rfl⟩⟩) rfl
theorem shadeTrue_main (c : List Tnt) (l : Lds) (s : List Shd) (ys : List Nat) (hcb : c.length ≤ bigN) (hs : l.st.length ≤ bigN) (hsl : s.length ≤ bigN) (hyn : ys.length ≤ bigN) (hys : ∀ y ∈ ys, y ≤ 4294967295) : Pure Try.prog 6 [curV c, ldV l, shdV s, (.is (ys.flatMap w1) ys.length)] (.bool true) := by
  have hyB := fun i => wt_B hys i
  have hyn2 := hyn
  unfold bigN at hyn2
  have hsl2 := hsl
  unfold bigN at hsl2
  refine Pure.start (N := 264) Try.func6 rfl rfl (Nat.le_of_ble_eq_true rfl) ?_
  refine AWp.seq ?_
  refine AWp.region ?_
  refine AList.c 5 rfl rfl rfl (OpJ.boxImm rfl rfl rfl) ?_
  refine AList.c 8 rfl rfl rfl (OpJ.assign rfl rfl) ?_
  refine AList.nil ?_
  refine AWp.seq ?_
  refine AWp.seq ?_
  refine AWp.region ?_
  refine AList.c 25 rfl rfl rfl (OpJ.move rfl rfl) ?_
  refine AList.c 26 rfl rfl rfl (OpJ.load (v := .p (ldV l)) rfl rfl ty28 rfl) ?_
  refine AList.c 27 rfl rfl rfl (OpJ.buildImm rfl slz39 (by decide) rfl rfl rfl) ?_
  refine AList.c 28 rfl rfl rfl (OpJ.callP (great_ok c [l] hcb (by unfold bigN; show 1 ≤ _; omega) (fun x hx => by simp at hx; subst hx; exact hs)) rfl rfl rfl rfl rf13) ?_
  refine AList.c 29 rfl rfl rfl (OpJ.move rfl rfl) ?_
  refine AList.g 30 29 rfl rfl rfl rfl rfl rfl rfl [(2, _)] (fun h => And.intro (.inl rfl) (trivial)) (fun h => (OpJ.move rfl rfl)) ?_
  refine AList.g 31 29 rfl rfl rfl rfl rfl rfl rfl [(30, _)] (fun h => And.intro (.inr ⟨_, rfl, h⟩) (trivial)) (fun h => (OpJ.lenSlice rfl rfl sl23 rfl)) ?_
  refine AList.g 32 29 rfl rfl rfl rfl rfl rfl rfl [(31, _)] (fun h => And.intro (.inr ⟨_, rfl, h⟩) (trivial)) (fun h => (OpJ.gtr rfl rfl rfl)) ?_
  refine AList.c 33 rfl rfl rfl (OpJ.or_ rfl rfl rfl ?_) ?_
  · first | (intro h; rw [h]; rfl) | (intro h; simp_all)
  refine AList.c 34 rfl rfl rfl (OpJ.move rfl rfl) ?_
  refine AList.g 35 34 rfl rfl rfl rfl rfl rfl rfl [(3, _)] (fun h => And.intro (.inl rfl) (trivial)) (fun h => (OpJ.move rfl rfl)) ?_
  refine AList.g 36 34 rfl rfl rfl rfl rfl rfl rfl [(35, _)] (fun h => And.intro (.inr ⟨_, rfl, h⟩) (trivial)) (fun h => (OpJ.lenSlice rfl rfl sl58 rfl)) ?_
  refine AList.g 37 34 rfl rfl rfl rfl rfl rfl rfl [(36, _)] (fun h => And.intro (.inr ⟨_, rfl, h⟩) (trivial)) (fun h => (OpJ.eql rfl rfl rfl)) ?_
  refine AList.c 38 rfl rfl rfl (OpJ.or_ rfl rfl rfl ?_) ?_
  · first | (intro h; rw [h]; rfl) | (intro h; simp_all)
  refine AList.c 39 rfl rfl rfl (OpJ.move rfl rfl) ?_
  refine AList.g 40 39 rfl rfl rfl rfl rfl rfl rfl [(0, _)] (fun h => And.intro (.inl rfl) (trivial)) (fun h => (OpJ.move rfl rfl)) ?_
  refine AList.g 41 39 rfl rfl rfl rfl rfl rfl rfl [(40, _)] (fun h => And.intro (.inr ⟨_, rfl, h⟩) (trivial)) (fun h => (OpJ.callP (rcurve_ok c hcb) rfl rfl rfl rfl rf28)) ?_
  refine AList.g 42 39 rfl rfl rfl rfl rfl rfl rfl [(41, _)] (fun h => And.intro (.inr ⟨_, rfl, h⟩) (trivial)) (fun h => (OpJ.not_ rfl rfl)) ?_
  refine AList.c 43 rfl rfl rfl (OpJ.or_ rfl rfl rfl ?_) ?_
  · first | (intro h; rw [h]; rfl) | (intro h; simp_all)
  refine AList.c 44 rfl rfl rfl (OpJ.move rfl rfl) ?_
  refine AList.g 45 44 rfl rfl rfl rfl rfl rfl rfl [(5, _)] (fun h => And.intro (.inl rfl) (trivial)) (fun h => (OpJ.load (v := .p (ldV l)) rfl rfl ty28 rfl)) ?_
  refine AList.g 46 44 rfl rfl rfl rfl rfl rfl rfl [(45, _)] (fun h => And.intro (.inr ⟨_, rfl, h⟩) (trivial)) (fun h => (OpJ.callP (rleads_ok l hs) rfl rfl rfl rfl rf29)) ?_
  refine AList.g 47 44 rfl rfl rfl rfl rfl rfl rfl [(46, _)] (fun h => And.intro (.inr ⟨_, rfl, h⟩) (trivial)) (fun h => (OpJ.not_ rfl rfl)) ?_
  refine AList.c 48 rfl rfl rfl (OpJ.or_ rfl rfl rfl ?_) ?_
  · first | (intro h; rw [h]; rfl) | (intro h; simp_all)
  refine AList.nil ?_
  refine AWp.cond _ rfl (fun hc0 => ?_) (fun hc0 => ?_)
  · skip
    refine AWp.seq ?_
    refine AWp.region ?_
    refine AList.c 49 rfl rfl rfl (OpJ.callP (alive_ok) rfl rfl rfl rfl rf14) ?_
    refine AList.c 8 rfl rfl rfl (OpJ.assign rfl rfl) ?_
    refine AList.nil ?_
    refine AWp.ret ?_
    exact Fin.oneE rfl rfl rfl
  · skip
    have hC : okC c := by rcases Decidable.em (okC c) with h | h; { exact h }; { simp [h] at hc0 }
    have hL : OkL l := (ldB_iff l).1 (by cases h : ldB l with | true => rfl | false => rw [h] at hc0; simp at hc0)
    have hy0 : 0 < ys.length := by rcases Nat.eq_zero_or_pos ys.length with h | h; { rw [h] at hc0; simp at hc0 }; { exact h }
    refine AWp.skip ?_
    refine AWp.seq ?_
    refine AWp.region ?_
    refine AList.c 51 rfl rfl rfl (OpJ.move rfl rfl) ?_
    refine AList.c 52 rfl rfl rfl (OpJ.load (v := .p (ldV l)) rfl rfl ty28 rfl) ?_
    refine AList.c 53 rfl rfl rfl (OpJ.move rfl rfl) ?_
    refine AList.c 54 rfl rfl rfl (OpJ.callP (truth_ok c l ys hC hL hy0 hyn hys) rfl rfl rfl rfl rf30) ?_
    refine AList.c 50 rfl rfl rfl (OpJ.move rfl rfl) ?_
    refine AList.c 55 rfl rfl rfl (OpJ.extract rfl rfl rfl) ?_
    refine AList.c 56 rfl rfl rfl (OpJ.extract rfl rfl rfl) ?_
    refine AList.c 9 rfl rfl rfl (OpJ.assign rfl rfl) ?_
    refine AList.c 10 rfl rfl rfl (OpJ.assign rfl rfl) ?_
    refine AList.nil ?_
    refine AWp.seq ?_
    refine AWp.seq ?_
    refine AWp.region ?_
    refine AList.c 57 rfl rfl rfl (OpJ.move rfl rfl) ?_
    refine AList.c 58 rfl rfl rfl (OpJ.not_ rfl rfl) ?_
    refine AList.nil ?_
    refine AWp.cond _ rfl (fun hc1 => ?_) (fun hc1 => ?_)
    · skip
      refine AWp.seq ?_
      refine AWp.region ?_
      refine AList.c 59 rfl rfl rfl (OpJ.callP (alive_ok) rfl rfl rfl rfl rf14) ?_
      refine AList.c 8 rfl rfl rfl (OpJ.assign rfl rfl) ?_
      refine AList.nil ?_
      refine AWp.ret ?_
      exact Fin.oneE rfl rfl rfl
    · skip
      have hr : (truR c (truW l ys)).2 = true := by simpa using hc1
      have hT := truL_ok hC hL hr
      have hBl := tru_black hC hL hr
      have hHE := fun h => tru_hasE hC hL hr s h
      obtain ⟨n, hn⟩ : ∃ n, n = (truR c (truW l ys)).1 := ⟨_, rfl⟩
      rw [← hn] at hT hBl hHE
      rw [← hn]
      have hnB := hT.2.2
      have hnI := hT.2.1
      have hl6 := hL.n
      have hls := hL.s
      have hlw := hL.w
      have hxn : (truL l n ys).st.length ≤ bigN := by have := redL_len n ys l.st l.st.length; unfold bigN; show (redL n ys l.st l.st.length).length ≤ _; omega
      have hmB := meets_B (srcs c (truL l n ys))
      rw [show meets (srcs c (truL l n ys)) = blk c (truL l n ys) from rfl] at hmB
      refine AWp.skip ?_
      refine AWp.seq ?_
      refine AWp.region ?_
      refine AList.c 60 rfl rfl rfl (OpJ.load (v := .p (ldV l)) rfl rfl ty28 rfl) ?_
      refine AList.c 11 rfl rfl rfl (OpJ.allocOwn rfl zr28 rfl) ?_
      refine AList.c0 rfl rfl (OpJ.store (H' := [.cells (l.cells.map .p) 28]) rfl rfl rfl rfl rfl ty28 rfl rfl) ?_
      refine AList.nil ?_
      refine AWp.seq ?_
      refine AWp.region ?_
      refine AList.c 61 rfl rfl rfl (OpJ.fieldAddr rfl rfl fd28_3 rfl) ?_
      refine AList.c0 rfl rfl (OpJ.store (H' := [truX l 0]) rfl rfl rfl rfl rfl ty26 rfl rfl) ?_
      refine AList.nil ?_
      refine AWp.seq ?_
      refine AWp.seq ?_
      refine AWp.region ?_
      refine AList.c 62 rfl rfl rfl (OpJ.fieldAddr rfl rfl fd28_3 rfl) ?_
      refine AList.c 63 rfl rfl rfl (OpJ.load rfl rfl ty26 rfl) ?_
      refine AList.c 64 rfl rfl rfl (OpJ.lenSlice rfl rfl sl26 rfl) ?_
      refine AList.c 65 rfl rfl rfl (OpJ.move rfl rfl) ?_
      refine AList.nil ?_
      refine AWp.block ?_
      refine AWp.loopHL [0, 2, 3, 5, 8, 9, 11, 17, 18, 19, 20, 21, 22, 24, 63, 64, 123, 124, 125, 126, 127, 128, 129, 130, 131, 132, 133, 134, 135, 136, 137, 138, 139, 140, 141, 142, 143, 144, 145, 146, 147, 148, 149, 150, 151, 152, 153, 154, 155, 156, 157, 158, 159, 160, 161, 162, 163, 164, 165, 166, 167, 168, 169, 170, 171, 172, 173, 174, 175, 176, 177, 178, 179, 180, 181, 182, 183, 184, 185, 186, 187, 188, 189, 190, 191, 192, 193, 194, 195, 196, 197, 198, 199, 200, 201, 202, 203, 204, 205, 206, 207, 208, 209, 210, 211, 212, 213, 214, 215, 216, 217, 218, 219, 220, 221, 222, 223, 224, 225, 226, 227, 228, 229, 230, 231, 232, 233, 234, 235, 236, 237, 238, 239, 240, 241, 242, 243, 244, 245, 246, 247, 248, 249, 250, 251, 252, 253, 254, 255, 256, 257, 258, 259, 260, 261, 262, 263] (fun g => [(65, .p (.int .i64 ((g : Nat) : Int)))]) (fun g => [truX l (redL n ys l.st g).length, accB (((redL n ys l.st g).flatMap Stk.cells).map .p) 51 (redL n ys l.st g).length]) (fun g => g ≤ l.st.length) (fun g => l.st.length - g) 0 (Nat.zero_le _) (To.pad.trans (To.sub (Sub.chk (Sub.cons rfl Sub.nil)))) (fun i hg => ?_)
      refine AWp.seq ?_
      refine AWp.region ?_
      refine AList.c 66 rfl rfl rfl (OpJ.lss rfl rfl rfl) ?_
      refine AList.nil ?_
      refine AWp.seq ?_
      refine AWp.cond _ rfl (fun hc2 => ?_) (fun hc2 => ?_)
      · skip
        have hk0 : i < l.st.length := by have h := of_decide_eq_true hc2; omega
        have hks := hL.st _ (stk_mem hk0)
        unfold okS at hks
        have hkm := Nat.mod_lt i hy0
        have bpk := pickI_B hks.2.2.1 (wt ys (i % ys.length))
        have hnp := mulB (a := n) (b := (pickI (stk l.st i).plo (stk l.st i).phi (wt ys (i % ys.length)))) (A := 200) (B := 4000) hnB.1 hnB.2 (by omega) (by omega)
        have hrl := redL_len n ys l.st i
        have d1 := divB (a := n * (pickI (stk l.st i).plo (stk l.st i).phi (wt ys (i % ys.length)))) (b := 1000) hnp.1 (by decide)
        have d2 := divB (a := n * (pickI (stk l.st i).plo (stk l.st i).phi (wt ys (i % ys.length))) + 999) (b := 1000) (by omega) (by decide)
        refine AWp.skip ?_
        refine AWp.seq ?_
        refine AWp.block ?_
        refine AWp.seq ?_
        refine AWp.region ?_
        refine AList.c 67 rfl rfl rfl (OpJ.move rfl rfl) ?_
        refine AList.c 68 rfl rfl rfl (OpJ.indexG (g := stk l.st) (fun _ h => stk_get h) rfl rfl rfl sl26 el26 rfl (fun _ => rfl) (by decide) hk0) ?_
        refine AList.c 69 rfl rfl rfl (OpJ.load (v := .p (.agg (stk l.st i).cells)) rfl rfl ty51 rfl) ?_
        refine AList.c 13 rfl rfl rfl (OpJ.allocOwn rfl zr51 rfl) ?_
        refine AList.c 12 rfl rfl rfl (OpJ.assign rfl rfl) ?_
        refine AList.c0 rfl rfl (OpJ.store (H' := [truX l (redL n ys l.st i).length, accB (((redL n ys l.st i).flatMap Stk.cells).map .p) 51 (redL n ys l.st i).length, .cells ((stk l.st i).cells.map .p) 51]) rfl rfl rfl rfl rfl ty51 rfl rfl) ?_
        refine AList.nil ?_
        refine AWp.seq ?_
        refine AWp.regionDraw 11 mixed (by kernel_rfl) (by decide) ?_
        refine AQuiet.cons 70 rfl rfl rfl (OpJ.fieldAddr rfl rfl fd51_1 rfl) ?_
        refine AQuiet.cons 71 rfl rfl rfl (OpJ.load (v := .p (.agg [.int .i64 (stk l.st i).plo, .int .i64 (stk l.st i).phi])) rfl rfl ty25 rfl) ?_
        refine AQuiet.cons 72 rfl rfl rfl (OpJ.move rfl rfl) ?_
        refine AQuiet.cons 73 rfl rfl rfl (OpJ.move rfl rfl) ?_
        refine AQuiet.cons 74 rfl rfl rfl (OpJ.move rfl rfl) ?_
        refine AQuiet.cons 75 rfl rfl rfl (OpJ.lenSlice rfl rfl sl58 rfl) ?_
        refine AQuiet.cons 76 rfl rfl rfl (OpJ.rem (m := ((i % ys.length : Nat) : Int)) rfl rfl rfl ?_ ?_) ?_
        · omega
        · exact tmodN _ _
        refine AQuiet.cons 77 rfl rfl rfl (OpJ.indexG (g := wt ys) (fun k h => wt_get ys k h) rfl rfl rfl sl58 el58 rfl (fun _ => rfl) (by decide) hkm) ?_
        refine AQuiet.cons 78 rfl rfl rfl (OpJ.load rfl rfl ty64 rfl) ?_
        refine AQuiet.cons 79 rfl rfl rfl (OpJ.callP (pick_ok (stk l.st i).plo (stk l.st i).phi (wt ys (i % ys.length)) (by omega) (by omega) (by omega) (hyB _)) rfl rfl rfl rfl rf31) ?_
        refine AQuiet.cons 14 rfl rfl rfl (OpJ.assign rfl rfl) ?_
        refine AQuiet.nil ?_
        refine AList.nil ?_
        refine AWp.seq ?_
        refine AWp.region ?_
        refine AList.c 80 rfl rfl rfl (OpJ.move rfl rfl) ?_
        refine AList.c 81 rfl rfl rfl (OpJ.move rfl rfl) ?_
        refine AList.c 82 rfl rfl rfl (OpJ.mul rfl rfl rfl (i64ok ?_)) ?_
        · omega
        refine AList.c 83 rfl rfl rfl (OpJ.quo (m := (n * (pickI (stk l.st i).plo (stk l.st i).phi (wt ys (i % ys.length))) / 1000)) rfl rfl rfl (by decide) ((i64ok (by omega)).trans d1.1)) ?_
        refine AList.c 84 rfl rfl rfl (OpJ.move rfl rfl) ?_
        refine AList.c 85 rfl rfl rfl (OpJ.move rfl rfl) ?_
        refine AList.c 86 rfl rfl rfl (OpJ.mul rfl rfl rfl (i64ok ?_)) ?_
        · omega
        refine AList.c 87 rfl rfl rfl (OpJ.add rfl rfl rfl (i64ok ?_)) ?_
        · omega
        refine AList.c 88 rfl rfl rfl (OpJ.quo (m := ((n * (pickI (stk l.st i).plo (stk l.st i).phi (wt ys (i % ys.length))) + 999) / 1000)) rfl rfl rfl (by decide) ((i64ok (by omega)).trans d2.1)) ?_
        refine AList.c 15 rfl rfl rfl (OpJ.assign rfl rfl) ?_
        refine AList.c 16 rfl rfl rfl (OpJ.assign rfl rfl) ?_
        refine AList.nil ?_
        refine AWp.seq ?_
        refine AWp.regionDraw 21 mixed (by kernel_rfl) (by decide) ?_
        refine AQuiet.cons 89 rfl rfl rfl (OpJ.move rfl rfl) ?_
        refine AQuiet.cons 90 rfl rfl rfl (OpJ.move rfl rfl) ?_
        refine AQuiet.cons 91 rfl rfl rfl (OpJ.indexG (g := wt ys) (k := 0) (fun k h => wt_get ys k h) rfl rfl rfl sl58 el58 rfl (fun _ => rfl) (by decide) hy0) ?_
        refine AQuiet.cons 92 rfl rfl rfl (OpJ.load rfl rfl ty64 rfl) ?_
        refine AQuiet.cons 93 rfl rfl rfl (OpJ.convInt rfl rfl (by rw [un64]; rfl) un3 (i64ok ?_)) ?_
        · have := hyB 0; omega
        refine AQuiet.cons 94 rfl rfl rfl (OpJ.rem (m := ((wt ys 0 % 9 : Nat) : Int)) rfl rfl rfl ?_ ?_) ?_
        · decide
        · exact tmodN _ _
        refine AQuiet.cons 95 rfl rfl rfl (OpJ.sub_ rfl rfl rfl (i64ok ?_)) ?_
        · omega
        refine AQuiet.cons 96 rfl rfl rfl (OpJ.max2 rfl rfl rfl) ?_
        refine AQuiet.cons 97 rfl rfl rfl (OpJ.move rfl rfl) ?_
        refine AQuiet.cons 98 rfl rfl rfl (OpJ.move rfl rfl) ?_
        refine AQuiet.cons 99 rfl rfl rfl (OpJ.move rfl rfl) ?_
        refine AQuiet.cons 100 rfl rfl rfl (OpJ.lenSlice rfl rfl sl58 rfl) ?_
        refine AQuiet.cons 101 rfl rfl rfl (OpJ.sub_ (m := ((ys.length - 1 : Nat) : Int)) rfl rfl rfl ((i64ok ?_).trans ?_)) ?_
        · unfold bigN at hyn; omega
        · omega
        refine AQuiet.cons 102 rfl rfl rfl (OpJ.indexG (g := wt ys) (fun k h => wt_get ys k h) rfl rfl rfl sl58 el58 rfl (fun _ => rfl) (by decide) (by omega)) ?_
        refine AQuiet.cons 103 rfl rfl rfl (OpJ.load rfl rfl ty64 rfl) ?_
        refine AQuiet.cons 104 rfl rfl rfl (OpJ.convInt rfl rfl (by rw [un64]; rfl) un3 (i64ok ?_)) ?_
        · have := hyB (ys.length - 1); omega
        refine AQuiet.cons 105 rfl rfl rfl (OpJ.rem (m := ((wt ys (ys.length - 1) % 9 : Nat) : Int)) rfl rfl rfl ?_ ?_) ?_
        · decide
        · exact tmodN _ _
        refine AQuiet.cons 106 rfl rfl rfl (OpJ.add rfl rfl rfl (i64ok ?_)) ?_
        · omega
        refine AQuiet.cons 107 rfl rfl rfl (OpJ.min2 rfl rfl rfl) ?_
        refine AQuiet.cons 108 rfl rfl rfl (OpJ.callP (lspan_ok _ _) rfl rfl rfl rfl rf25) ?_
        refine AQuiet.cons 109 rfl rfl rfl (OpJ.fieldAddr rfl rfl fd51_0 rfl) ?_
        refine AQuiet.nil ?_
        refine AList.c0 rfl rfl (OpJ.store (H' := [truX l (redL n ys l.st i).length, accB (((redL n ys l.st i).flatMap Stk.cells).map .p) 51 (redL n ys l.st i).length, .cells ((redS n ys i (stk l.st i)).cells.map .p) 51]) rfl rfl rfl rfl rfl ty25 rfl rfl) ?_
        refine AList.nil ?_
        refine AWp.seq ?_
        refine AWp.region ?_
        refine AList.c 110 rfl rfl rfl (OpJ.move rfl rfl) ?_
        refine AList.c 111 rfl rfl rfl (OpJ.leq rfl rfl rfl) ?_
        refine AList.c 112 rfl rfl rfl (OpJ.move rfl rfl) ?_
        refine AList.g 113 112 rfl rfl rfl rfl rfl rfl rfl [(16, _)] (fun h => And.intro (.inl rfl) (trivial)) (fun h => (OpJ.move rfl rfl)) ?_
        refine AList.g 114 112 rfl rfl rfl rfl rfl rfl rfl [(113, _)] (fun h => And.intro (.inr ⟨_, rfl, h⟩) (trivial)) (fun h => (OpJ.leq rfl rfl rfl)) ?_
        refine AList.c 115 rfl rfl rfl (OpJ.and_ rfl rfl rfl ?_) ?_
        · first | (intro h; rw [h]; rfl) | (intro h; simp_all)
        refine AList.nil ?_
        refine AWp.cond _ rfl (fun hc3 => ?_) (fun hc3 => ?_)
        · skip
          have hR : redB n ys i (stk l.st i) = true := hc3
          have eL : redL n ys l.st (i + 1) = redL n ys l.st i ++ [redS n ys i (stk l.st i)] := if_pos hR
          have eLn : (redL n ys l.st (i + 1)).length = (redL n ys l.st i).length + 1 := by rw [eL, List.length_append]; rfl
          refine AWp.region ?_
          refine AList.c 116 rfl rfl rfl (OpJ.fieldAddr rfl rfl fd28_3 rfl) ?_
          refine AList.c 117 rfl rfl rfl (OpJ.load (v := accV 1 (redL n ys l.st i).length) rfl rfl ty26 rfl) ?_
          refine AList.c 118 rfl rfl rfl (OpJ.load (v := .p (.agg (redS n ys i (stk l.st i)).cells)) rfl rfl ty51 rfl) ?_
          refine AList.c 119 rfl rfl rfl (OpJ.buildImm rfl slz26 (by decide) rfl rfl rfl) ?_
          refine AList.c 120 rfl rfl rfl (OpJ.appendAcc rfl rfl rfl slz26 sl26 rfl ?_ rfl (by decide) rfl by51 (by decide) ?_) ?_
          · rw [List.length_map, flat_len (c := 4) (fun _ => rfl)]; rfl
          · show (2 * ((redL n ys l.st i).length + 1) + 192) * 32 ≤ 281474976710656; omega
          refine AList.c 121 rfl rfl rfl (OpJ.fieldAddr rfl rfl fd28_3 rfl) ?_
          refine AList.c0 rfl rfl (OpJ.store rfl rfl rfl rfl rfl ty26 rfl rfl) ?_
          refine AList.nil ?_
          refine AWp.region ?_
          refine AList.c 122 rfl rfl rfl (OpJ.add rfl rfl rfl (i64ok ?_)) ?_
          · omega
          refine AList.c 65 rfl rfl rfl (OpJ.move rfl rfl) ?_
          refine AList.nil ?_
          refine ⟨i + 1, ?_, ?_, ?_⟩
          · omega
          · omega
          rw [eLn, eL]
          refine To.done [0, 3] rfl (by repeat (first | exact Sub.nil | refine Sub.cons rfl ?_)) ?_
          show (_ : Blk) :: [_] = _ :: [_]
          refine List.cons_eq_cons.2 ⟨rfl, ?_⟩
          show [Blk.row (renL _ (_ ++ _)) _] = [Blk.row _ _]
          rw [renL_app, renL_pure, List.flatMap_append, List.map_append]
          rfl
        · skip
          have hR : redB n ys i (stk l.st i) = false := hc3
          have eL : redL n ys l.st (i + 1) = redL n ys l.st i := if_neg (by rw [hR]; decide)
          refine AWp.skip ?_
          refine AWp.region ?_
          refine AList.c 122 rfl rfl rfl (OpJ.add rfl rfl rfl (i64ok ?_)) ?_
          · omega
          refine AList.c 65 rfl rfl rfl (OpJ.move rfl rfl) ?_
          refine AList.nil ?_
          refine ⟨i + 1, ?_, ?_, ?_⟩
          · omega
          · omega
          rw [eL]
          refine To.done [0, 1] rfl (by repeat (first | exact Sub.nil | refine Sub.cons rfl ?_)) (by show [renB _ (truX _ _), renB _ (accB _ _ _)] = _; rw [truX_ren (σ := pl [0, 1]) rfl, renB_accB])
      · skip
        obtain rfl : l.st.length = i := by have h := of_decide_eq_false hc2; omega
        refine AWp.to (To.accC 1 0 (xs := (redL n ys l.st l.st.length).flatMap Stk.cells) (n := (redL n ys l.st l.st.length).length) (a := xA l) (b := xB l) [(0, .p (curV c)), (2, .p (shdV s)), (3, .p (.is (ys.flatMap w1) ys.length)), (5, .p (.ip l.cells 0)), (9, .p (.int .i64 n)), (11, .ptr 0 0)] (by decide) rfl rfl (fun h => by rw [List.length_eq_zero_iff.1 h]; rfl) rfl rfl (by repeat (first | exact Sub.nil | refine Sub.cons rfl ?_)) (by repeat (first | exact Sub.nil | refine Sub.cons rfl ?_))) ?_
        refine AWp.exit ?_
        refine AWp.seq ?_
        refine AWp.region ?_
        refine AList.c 124 rfl rfl rfl (OpJ.move rfl rfl) ?_
        refine AList.c 125 rfl rfl rfl (OpJ.load (v := .p (ldV (truL l n ys))) rfl rfl ty28 rfl) ?_
        refine AList.c 126 rfl rfl rfl (OpJ.callP (black_R c (truL l n ys) hcb hxn) rfl rfl rfl rfl rf15) ?_
        refine AList.c 123 rfl rfl rfl (OpJ.move rfl rfl) ?_
        refine AList.c 127 rfl rfl rfl (OpJ.extract rfl rfl rfl) ?_
        refine AList.c 128 rfl rfl rfl (OpJ.extract rfl rfl rfl) ?_
        refine AList.c 17 rfl rfl rfl (OpJ.allocOwn rfl zr25 rfl) ?_
        refine AList.c0 rfl rfl (OpJ.store rfl rfl rfl rfl rfl ty25 rfl rfl) ?_
        refine AList.c 18 rfl rfl rfl (OpJ.assign rfl rfl) ?_
        refine AList.nil ?_
        refine AWp.seq ?_
        refine AWp.seq ?_
        rw [hBl]
        refine AWp.region ?_
        refine AList.c 129 rfl rfl rfl (OpJ.move rfl rfl) ?_
        refine AList.c 130 rfl rfl rfl (OpJ.neq rfl rfl rfl) ?_
        refine AList.c 131 rfl rfl rfl (OpJ.move rfl rfl) ?_
        refine AList.g 132 131 rfl rfl rfl rfl rfl rfl rfl [(9, _)] (fun h => And.intro (.inl rfl) (trivial)) (fun h => (OpJ.move rfl rfl)) ?_
        refine AList.g 133 131 rfl rfl rfl rfl rfl rfl rfl [(17, _)] (fun h => And.intro (.inl rfl) (trivial)) (fun h => (OpJ.fieldAddr rfl rfl fd25_0 rfl)) ?_
        refine AList.g 134 131 rfl rfl rfl rfl rfl rfl rfl [(133, _)] (fun h => And.intro (.inr ⟨_, rfl, h⟩) (trivial)) (fun h => (OpJ.load rfl rfl ty3 rfl)) ?_
        refine AList.g 135 131 rfl rfl rfl rfl rfl rfl rfl [(132, _), (134, _)] (fun h => And.intro (.inr ⟨_, rfl, h⟩) (And.intro (.inr ⟨_, rfl, h⟩) (trivial))) (fun h => (OpJ.lss rfl rfl rfl)) ?_
        refine AList.c 136 rfl rfl rfl (OpJ.or_ rfl rfl rfl ?_) ?_
        · first | (intro h; rw [h]; rfl) | (intro h; simp_all)
        refine AList.c 137 rfl rfl rfl (OpJ.move rfl rfl) ?_
        refine AList.g 138 137 rfl rfl rfl rfl rfl rfl rfl [(9, _)] (fun h => And.intro (.inl rfl) (trivial)) (fun h => (OpJ.move rfl rfl)) ?_
        refine AList.g 139 137 rfl rfl rfl rfl rfl rfl rfl [(17, _)] (fun h => And.intro (.inl rfl) (trivial)) (fun h => (OpJ.fieldAddr rfl rfl fd25_1 rfl)) ?_
        refine AList.g 140 137 rfl rfl rfl rfl rfl rfl rfl [(139, _)] (fun h => And.intro (.inr ⟨_, rfl, h⟩) (trivial)) (fun h => (OpJ.load rfl rfl ty3 rfl)) ?_
        refine AList.g 141 137 rfl rfl rfl rfl rfl rfl rfl [(138, _), (140, _)] (fun h => And.intro (.inr ⟨_, rfl, h⟩) (And.intro (.inr ⟨_, rfl, h⟩) (trivial))) (fun h => (OpJ.gtr rfl rfl rfl)) ?_
        refine AList.c 142 rfl rfl rfl (OpJ.or_ rfl rfl rfl ?_) ?_
        · first | (intro h; rw [h]; rfl) | (intro h; simp_all)
        refine AList.c 143 rfl rfl rfl (OpJ.move rfl rfl) ?_
        refine AList.g 144 143 rfl rfl rfl rfl rfl rfl rfl [(17, _)] (fun h => And.intro (.inl rfl) (trivial)) (fun h => (OpJ.fieldAddr rfl rfl fd25_0 rfl)) ?_
        refine AList.g 145 143 rfl rfl rfl rfl rfl rfl rfl [(144, _)] (fun h => And.intro (.inr ⟨_, rfl, h⟩) (trivial)) (fun h => (OpJ.load rfl rfl ty3 rfl)) ?_
        refine AList.g 146 143 rfl rfl rfl rfl rfl rfl rfl [(145, _)] (fun h => And.intro (.inr ⟨_, rfl, h⟩) (trivial)) (fun h => (OpJ.lss rfl rfl rfl)) ?_
        refine AList.c 147 rfl rfl rfl (OpJ.or_ rfl rfl rfl ?_) ?_
        · first | (intro h; rw [h]; rfl) | (intro h; simp_all)
        refine AList.c 148 rfl rfl rfl (OpJ.move rfl rfl) ?_
        refine AList.g 149 148 rfl rfl rfl rfl rfl rfl rfl [(17, _)] (fun h => And.intro (.inl rfl) (trivial)) (fun h => (OpJ.fieldAddr rfl rfl fd25_1 rfl)) ?_
        refine AList.g 150 148 rfl rfl rfl rfl rfl rfl rfl [(149, _)] (fun h => And.intro (.inr ⟨_, rfl, h⟩) (trivial)) (fun h => (OpJ.load rfl rfl ty3 rfl)) ?_
        refine AList.g 151 148 rfl rfl rfl rfl rfl rfl rfl [(150, _)] (fun h => And.intro (.inr ⟨_, rfl, h⟩) (trivial)) (fun h => (OpJ.gtr rfl rfl rfl)) ?_
        refine AList.c 152 rfl rfl rfl (OpJ.or_ rfl rfl rfl ?_) ?_
        · first | (intro h; rw [h]; rfl) | (intro h; simp_all)
        refine AList.nil ?_
        refine AWp.cond _ rfl (fun hc4 => ?_) (fun hc4 => ?_)
        · skip
          exfalso
          simp at hc4
          omega
        · skip
          refine AWp.skip ?_
          refine AWp.seq ?_
          refine AWp.region ?_
          refine AList.c 154 rfl rfl rfl (OpJ.move rfl rfl) ?_
          refine AList.c 155 rfl rfl rfl (OpJ.move rfl rfl) ?_
          refine AList.c 156 rfl rfl rfl (OpJ.load (v := .p (ldV (truL l n ys))) rfl rfl ty28 rfl) ?_
          refine AList.c 157 rfl rfl rfl (OpJ.callP (has_R c s (truL l n ys) hcb hsl hxn) rfl rfl rfl rfl rf17) ?_
          refine AList.c 153 rfl rfl rfl (OpJ.move rfl rfl) ?_
          refine AList.c 158 rfl rfl rfl (OpJ.extract rfl rfl rfl) ?_
          refine AList.c 159 rfl rfl rfl (OpJ.extract rfl rfl rfl) ?_
          refine AList.c 19 rfl rfl rfl (OpJ.assign rfl rfl) ?_
          refine AList.c 20 rfl rfl rfl (OpJ.assign rfl rfl) ?_
          refine AList.nil ?_
          refine AWp.seq ?_
          refine AWp.seq ?_
          refine AWp.region ?_
          refine AList.c 160 rfl rfl rfl (OpJ.move rfl rfl) ?_
          refine AList.c 161 rfl rfl rfl (OpJ.neq rfl rfl rfl) ?_
          refine AList.nil ?_
          refine AWp.cond _ rfl (fun hc5 => ?_) (fun hc5 => ?_)
          · skip
            have he : (hasR c s (truL l n ys)).2 ≠ 0 := by simpa using hc5
            have hE := hHE he
            refine AWp.seq ?_
            refine AWp.region ?_
            refine AList.c 162 rfl rfl rfl (OpJ.move rfl rfl) ?_
            refine AList.c 163 rfl rfl rfl (OpJ.lenSlice rfl rfl sl34 rfl) ?_
            refine AList.c 164 rfl rfl rfl (OpJ.eql rfl rfl rfl) ?_
            refine AList.c 165 rfl rfl rfl (OpJ.move rfl rfl) ?_
            refine AList.g 166 165 rfl rfl rfl rfl rfl rfl rfl [(20, _)] (fun h => And.intro (.inl rfl) (trivial)) (fun h => (OpJ.move rfl rfl)) ?_
            refine AList.g 167 165 rfl rfl rfl rfl rfl rfl rfl [(166, _)] (fun h => And.intro (.inr ⟨_, rfl, h⟩) (trivial)) (fun h => (OpJ.eql rfl rfl rfl)) ?_
            refine AList.g 168 165 rfl rfl rfl rfl rfl rfl rfl [(167, _)] (fun h => And.intro (.inr ⟨_, rfl, h⟩) (trivial)) (fun h => (OpJ.move rfl rfl)) ?_
            refine AList.g 169 168 rfl rfl rfl rfl rfl rfl rfl [(20, _)] (fun h => And.intro (.inl rfl) (trivial)) (fun h => (OpJ.move rfl rfl)) ?_
            refine AList.g 170 168 rfl rfl rfl rfl rfl rfl rfl [(169, _)] (fun h => And.intro (.inr ⟨_, rfl, h⟩) (trivial)) (fun h => (OpJ.eql rfl rfl rfl)) ?_
            refine AList.g 171 165 rfl rfl rfl rfl rfl rfl rfl [(168, _), (170, _)] (fun h => And.intro (.inr ⟨_, rfl, h⟩) (And.intro (.inl rfl) (trivial))) (fun h => (OpJ.or_ rfl rfl rfl ?_)) ?_
            · first | (intro h; rw [h]; rfl) | (intro h; simp_all)
            refine AList.c 172 rfl rfl rfl (OpJ.and_ rfl rfl rfl ?_) ?_
            · first | (intro h; rw [h]; rfl) | (intro h; simp_all)
            refine AList.c 173 rfl rfl rfl (OpJ.move rfl rfl) ?_
            refine AList.g 174 173 rfl rfl rfl rfl rfl rfl rfl [] (fun h => trivial) (fun h => (OpJ.callP (alive_ok) rfl rfl rfl rfl rf14)) ?_
            refine AList.c 175 rfl rfl rfl (OpJ.and_ rfl rfl rfl ?_) ?_
            · first | (intro h; rw [h]; rfl) | (intro h; simp_all)
            refine AList.c 8 rfl rfl rfl (OpJ.assign rfl rfl) ?_
            refine AList.nil ?_
            refine AWp.ret ?_
            refine Fin.oneE rfl rfl ?_
            rcases hE.2 with h | h <;> simp [hE.1, h]
          · skip
            have he : (hasR c s (truL l n ys)).2 = 0 := by simpa using hc5
            rw [hasR_zero he]
            have hil := idxs_len (fun i => hasQ c (sh s i) (truL l n ys)) s.length
            refine AWp.skip ?_
            refine AWp.seq ?_
            refine AWp.regionDraw 14 mixed (by kernel_rfl) (by decide) ?_
            refine AQuiet.cons 176 rfl rfl rfl (OpJ.fieldAddr rfl rfl fd28_4 rfl) ?_
            refine AQuiet.cons 177 rfl rfl rfl (OpJ.load (v := .p (.agg [.int .i64 l.slo, .int .i64 l.shi])) rfl rfl ty25 rfl) ?_
            refine AQuiet.cons 178 rfl rfl rfl (OpJ.move rfl rfl) ?_
            refine AQuiet.cons 179 rfl rfl rfl (OpJ.indexG (g := wt ys) (k := 0) (fun k h => wt_get ys k h) rfl rfl rfl sl58 el58 rfl (fun _ => rfl) (by decide) hy0) ?_
            refine AQuiet.cons 180 rfl rfl rfl (OpJ.load rfl rfl ty64 rfl) ?_
            refine AQuiet.cons 181 rfl rfl rfl (OpJ.callP (pick_ok l.slo l.shi (wt ys 0) (by omega) (by omega) (by omega) (hyB _)) rfl rfl rfl rfl rf31) ?_
            refine AQuiet.cons 182 rfl rfl rfl (OpJ.fieldAddr rfl rfl fd28_5 rfl) ?_
            refine AQuiet.cons 183 rfl rfl rfl (OpJ.load (v := .p (.agg [.int .i64 l.wlo, .int .i64 l.whi])) rfl rfl ty25 rfl) ?_
            refine AQuiet.cons 184 rfl rfl rfl (OpJ.move rfl rfl) ?_
            refine AQuiet.cons 185 rfl rfl rfl (OpJ.indexG (g := wt ys) (k := 0) (fun k h => wt_get ys k h) rfl rfl rfl sl58 el58 rfl (fun _ => rfl) (by decide) hy0) ?_
            refine AQuiet.cons 186 rfl rfl rfl (OpJ.load rfl rfl ty64 rfl) ?_
            refine AQuiet.cons 187 rfl rfl rfl (OpJ.callP (pick_ok l.wlo l.whi (wt ys 0) (by omega) (by omega) (by omega) (hyB _)) rfl rfl rfl rfl rf31) ?_
            refine AQuiet.cons 21 rfl rfl rfl (OpJ.assign rfl rfl) ?_
            refine AQuiet.cons 22 rfl rfl rfl (OpJ.assign rfl rfl) ?_
            refine AQuiet.nil ?_
            refine AList.nil ?_
            refine AWp.seq ?_
            refine AWp.seq ?_
            refine AWp.norm [] [(2, _), (9, _), (19, _), (21, _), (22, _)] [] rfl (by repeat (first | exact Sub.nil | refine Sub.cons rfl ?_)) rfl ?_
            refine AWp.region ?_
            refine AList.c 188 rfl rfl rfl (OpJ.move rfl rfl) ?_
            refine AList.c 189 rfl rfl rfl (OpJ.lenSlice rfl rfl sl34 rfl) ?_
            refine AList.c 190 rfl rfl rfl (OpJ.move rfl rfl) ?_
            refine AList.nil ?_
            refine AWp.block ?_
            refine AWp.loopHL [2, 9, 21, 22, 188, 189, 263] (fun g => [(190, .p (.int .i64 ((g : Nat) : Int)))]) (fun g => []) (fun g => g ≤ (idxs (fun i => hasQ c (sh s i) (truL l n ys)) s.length).length) (fun g => (idxs (fun i => hasQ c (sh s i) (truL l n ys)) s.length).length - g) 0 (Nat.zero_le _) (To.sub (Sub.chk (Sub.cons rfl (Sub.nil)))) (fun i hg => ?_)
            refine AWp.seq ?_
            refine AWp.region ?_
            refine AList.c 191 rfl rfl rfl (OpJ.lss rfl rfl rfl) ?_
            refine AList.nil ?_
            refine AWp.seq ?_
            refine AWp.cond _ rfl (fun hc6 => ?_) (fun hc6 => ?_)
            · skip
              have hk0 : i < (idxs (fun i => hasQ c (sh s i) (truL l n ys)) s.length).length := by have h := of_decide_eq_true hc6; omega
              obtain ⟨j, hj, hQ, hnj⟩ := idxs_mem hk0
              have hjt : (nt (idxs (fun i => hasQ c (sh s i) (truL l n ys)) s.length) i).toNat = j := by rw [hnj]; rfl
              have hQ2 := of_decide_eq_true hQ
              have bps := pickI_B hls.2.1 (wt ys 0)
              have bpw := pickI_B hlw.2.1 (wt ys 0)
              refine AWp.skip ?_
              refine AWp.seq ?_
              refine AWp.block ?_
              refine AWp.seq ?_
              refine AWp.region ?_
              refine AList.c 192 rfl rfl rfl (OpJ.indexG (g := nt (idxs (fun i => hasQ c (sh s i) (truL l n ys)) s.length)) (fun _ h => nt_get h) rfl rfl rfl sl34 el34 rfl (fun _ => rfl) (by decide) hk0) ?_
              refine AList.c 193 rfl rfl rfl (OpJ.load rfl rfl ty3 rfl) ?_
              refine AList.c 24 rfl rfl rfl (OpJ.assign rfl rfl) ?_
              refine AList.nil ?_
              refine AWp.seq ?_
              refine AWp.region ?_
              refine AList.c 194 rfl rfl rfl (OpJ.move rfl rfl) ?_
              refine AList.c 195 rfl rfl rfl (OpJ.lss rfl rfl rfl) ?_
              refine AList.c 196 rfl rfl rfl (OpJ.move rfl rfl) ?_
              refine AList.g 197 196 rfl rfl rfl rfl rfl rfl rfl [(24, _)] (fun h => And.intro (.inl rfl) (trivial)) (fun h => (OpJ.move rfl rfl)) ?_
              refine AList.g 198 196 rfl rfl rfl rfl rfl rfl rfl [(2, _)] (fun h => And.intro (.inl rfl) (trivial)) (fun h => (OpJ.move rfl rfl)) ?_
              refine AList.g 199 196 rfl rfl rfl rfl rfl rfl rfl [(198, _)] (fun h => And.intro (.inr ⟨_, rfl, h⟩) (trivial)) (fun h => (OpJ.lenSlice rfl rfl sl23 rfl)) ?_
              refine AList.g 200 196 rfl rfl rfl rfl rfl rfl rfl [(197, _), (199, _)] (fun h => And.intro (.inr ⟨_, rfl, h⟩) (And.intro (.inr ⟨_, rfl, h⟩) (trivial))) (fun h => (OpJ.geq rfl rfl rfl)) ?_
              refine AList.c 201 rfl rfl rfl (OpJ.or_ rfl rfl rfl ?_) ?_
              · first | (intro h; rw [h]; rfl) | (intro h; simp_all)
              refine AList.c 202 rfl rfl rfl (OpJ.move rfl rfl) ?_
              refine AList.g 203 202 rfl rfl rfl rfl rfl rfl rfl [(9, _)] (fun h => And.intro (.inl rfl) (trivial)) (fun h => (OpJ.move rfl rfl)) ?_
              refine AList.g 204 202 rfl rfl rfl rfl rfl rfl rfl [(2, _)] (fun h => And.intro (.inl rfl) (trivial)) (fun h => (OpJ.move rfl rfl)) ?_
              refine AList.g 205 202 rfl rfl rfl rfl rfl rfl rfl [(24, _)] (fun h => And.intro (.inl rfl) (trivial)) (fun h => (OpJ.move rfl rfl)) ?_
              refine AList.g 206 202 rfl rfl rfl rfl rfl rfl rfl [(204, _), (205, _)] (fun h => And.intro (.inr ⟨_, rfl, h⟩) (And.intro (.inr ⟨_, rfl, h⟩) (trivial))) (fun h => (OpJ.indexGI (g := sh s) (fun _ h => sh_get h) rfl rfl rfl sl23 el23 rfl (fun _ => rfl) (by decide) (by omega) (by omega))) ?_
              refine AList.g 207 202 rfl rfl rfl rfl rfl rfl rfl [(206, _)] (fun h => And.intro (.inr ⟨_, rfl, h⟩) (trivial)) (fun h => (OpJ.fieldAddr rfl rfl fd66_0 rfl)) ?_
              refine AList.g 208 202 rfl rfl rfl rfl rfl rfl rfl [(207, _)] (fun h => And.intro (.inr ⟨_, rfl, h⟩) (trivial)) (fun h => (OpJ.fieldAddr rfl rfl fd25_0 rfl)) ?_
              refine AList.g 209 202 rfl rfl rfl rfl rfl rfl rfl [(208, _)] (fun h => And.intro (.inr ⟨_, rfl, h⟩) (trivial)) (fun h => (OpJ.load rfl rfl ty3 rfl)) ?_
              refine AList.g 210 202 rfl rfl rfl rfl rfl rfl rfl [(203, _), (209, _)] (fun h => And.intro (.inr ⟨_, rfl, h⟩) (And.intro (.inr ⟨_, rfl, h⟩) (trivial))) (fun h => (OpJ.lss rfl rfl rfl)) ?_
              refine AList.c 211 rfl rfl rfl (OpJ.or_ rfl rfl rfl ?_) ?_
              · first | (intro h; rw [h]; rfl) | (intro h; simp_all)
              refine AList.c 212 rfl rfl rfl (OpJ.move rfl rfl) ?_
              refine AList.g 213 212 rfl rfl rfl rfl rfl rfl rfl [(9, _)] (fun h => And.intro (.inl rfl) (trivial)) (fun h => (OpJ.move rfl rfl)) ?_
              refine AList.g 214 212 rfl rfl rfl rfl rfl rfl rfl [(2, _)] (fun h => And.intro (.inl rfl) (trivial)) (fun h => (OpJ.move rfl rfl)) ?_
              refine AList.g 215 212 rfl rfl rfl rfl rfl rfl rfl [(24, _)] (fun h => And.intro (.inl rfl) (trivial)) (fun h => (OpJ.move rfl rfl)) ?_
              refine AList.g 216 212 rfl rfl rfl rfl rfl rfl rfl [(214, _), (215, _)] (fun h => And.intro (.inr ⟨_, rfl, h⟩) (And.intro (.inr ⟨_, rfl, h⟩) (trivial))) (fun h => (OpJ.indexGI (g := sh s) (fun _ h => sh_get h) rfl rfl rfl sl23 el23 rfl (fun _ => rfl) (by decide) (by omega) (by omega))) ?_
              refine AList.g 217 212 rfl rfl rfl rfl rfl rfl rfl [(216, _)] (fun h => And.intro (.inr ⟨_, rfl, h⟩) (trivial)) (fun h => (OpJ.fieldAddr rfl rfl fd66_0 rfl)) ?_
              refine AList.g 218 212 rfl rfl rfl rfl rfl rfl rfl [(217, _)] (fun h => And.intro (.inr ⟨_, rfl, h⟩) (trivial)) (fun h => (OpJ.fieldAddr rfl rfl fd25_1 rfl)) ?_
              refine AList.g 219 212 rfl rfl rfl rfl rfl rfl rfl [(218, _)] (fun h => And.intro (.inr ⟨_, rfl, h⟩) (trivial)) (fun h => (OpJ.load rfl rfl ty3 rfl)) ?_
              refine AList.g 220 212 rfl rfl rfl rfl rfl rfl rfl [(213, _), (219, _)] (fun h => And.intro (.inr ⟨_, rfl, h⟩) (And.intro (.inr ⟨_, rfl, h⟩) (trivial))) (fun h => (OpJ.gtr rfl rfl rfl)) ?_
              refine AList.c 221 rfl rfl rfl (OpJ.or_ rfl rfl rfl ?_) ?_
              · first | (intro h; rw [h]; rfl) | (intro h; simp_all)
              refine AList.c 222 rfl rfl rfl (OpJ.move rfl rfl) ?_
              refine AList.g 223 222 rfl rfl rfl rfl rfl rfl rfl [(21, _)] (fun h => And.intro (.inl rfl) (trivial)) (fun h => (OpJ.move rfl rfl)) ?_
              refine AList.g 224 222 rfl rfl rfl rfl rfl rfl rfl [(2, _)] (fun h => And.intro (.inl rfl) (trivial)) (fun h => (OpJ.move rfl rfl)) ?_
              refine AList.g 225 222 rfl rfl rfl rfl rfl rfl rfl [(24, _)] (fun h => And.intro (.inl rfl) (trivial)) (fun h => (OpJ.move rfl rfl)) ?_
              refine AList.g 226 222 rfl rfl rfl rfl rfl rfl rfl [(224, _), (225, _)] (fun h => And.intro (.inr ⟨_, rfl, h⟩) (And.intro (.inr ⟨_, rfl, h⟩) (trivial))) (fun h => (OpJ.indexGI (g := sh s) (fun _ h => sh_get h) rfl rfl rfl sl23 el23 rfl (fun _ => rfl) (by decide) (by omega) (by omega))) ?_
              refine AList.g 227 222 rfl rfl rfl rfl rfl rfl rfl [(226, _)] (fun h => And.intro (.inr ⟨_, rfl, h⟩) (trivial)) (fun h => (OpJ.fieldAddr rfl rfl fd66_1 rfl)) ?_
              refine AList.g 228 222 rfl rfl rfl rfl rfl rfl rfl [(227, _)] (fun h => And.intro (.inr ⟨_, rfl, h⟩) (trivial)) (fun h => (OpJ.fieldAddr rfl rfl fd25_0 rfl)) ?_
              refine AList.g 229 222 rfl rfl rfl rfl rfl rfl rfl [(228, _)] (fun h => And.intro (.inr ⟨_, rfl, h⟩) (trivial)) (fun h => (OpJ.load rfl rfl ty3 rfl)) ?_
              refine AList.g 230 222 rfl rfl rfl rfl rfl rfl rfl [(223, _), (229, _)] (fun h => And.intro (.inr ⟨_, rfl, h⟩) (And.intro (.inr ⟨_, rfl, h⟩) (trivial))) (fun h => (OpJ.lss rfl rfl rfl)) ?_
              refine AList.c 231 rfl rfl rfl (OpJ.or_ rfl rfl rfl ?_) ?_
              · first | (intro h; rw [h]; rfl) | (intro h; simp_all)
              refine AList.c 232 rfl rfl rfl (OpJ.move rfl rfl) ?_
              refine AList.g 233 232 rfl rfl rfl rfl rfl rfl rfl [(21, _)] (fun h => And.intro (.inl rfl) (trivial)) (fun h => (OpJ.move rfl rfl)) ?_
              refine AList.g 234 232 rfl rfl rfl rfl rfl rfl rfl [(2, _)] (fun h => And.intro (.inl rfl) (trivial)) (fun h => (OpJ.move rfl rfl)) ?_
              refine AList.g 235 232 rfl rfl rfl rfl rfl rfl rfl [(24, _)] (fun h => And.intro (.inl rfl) (trivial)) (fun h => (OpJ.move rfl rfl)) ?_
              refine AList.g 236 232 rfl rfl rfl rfl rfl rfl rfl [(234, _), (235, _)] (fun h => And.intro (.inr ⟨_, rfl, h⟩) (And.intro (.inr ⟨_, rfl, h⟩) (trivial))) (fun h => (OpJ.indexGI (g := sh s) (fun _ h => sh_get h) rfl rfl rfl sl23 el23 rfl (fun _ => rfl) (by decide) (by omega) (by omega))) ?_
              refine AList.g 237 232 rfl rfl rfl rfl rfl rfl rfl [(236, _)] (fun h => And.intro (.inr ⟨_, rfl, h⟩) (trivial)) (fun h => (OpJ.fieldAddr rfl rfl fd66_1 rfl)) ?_
              refine AList.g 238 232 rfl rfl rfl rfl rfl rfl rfl [(237, _)] (fun h => And.intro (.inr ⟨_, rfl, h⟩) (trivial)) (fun h => (OpJ.fieldAddr rfl rfl fd25_1 rfl)) ?_
              refine AList.g 239 232 rfl rfl rfl rfl rfl rfl rfl [(238, _)] (fun h => And.intro (.inr ⟨_, rfl, h⟩) (trivial)) (fun h => (OpJ.load rfl rfl ty3 rfl)) ?_
              refine AList.g 240 232 rfl rfl rfl rfl rfl rfl rfl [(233, _), (239, _)] (fun h => And.intro (.inr ⟨_, rfl, h⟩) (And.intro (.inr ⟨_, rfl, h⟩) (trivial))) (fun h => (OpJ.gtr rfl rfl rfl)) ?_
              refine AList.c 241 rfl rfl rfl (OpJ.or_ rfl rfl rfl ?_) ?_
              · first | (intro h; rw [h]; rfl) | (intro h; simp_all)
              refine AList.c 242 rfl rfl rfl (OpJ.move rfl rfl) ?_
              refine AList.g 243 242 rfl rfl rfl rfl rfl rfl rfl [(22, _)] (fun h => And.intro (.inl rfl) (trivial)) (fun h => (OpJ.move rfl rfl)) ?_
              refine AList.g 244 242 rfl rfl rfl rfl rfl rfl rfl [(2, _)] (fun h => And.intro (.inl rfl) (trivial)) (fun h => (OpJ.move rfl rfl)) ?_
              refine AList.g 245 242 rfl rfl rfl rfl rfl rfl rfl [(24, _)] (fun h => And.intro (.inl rfl) (trivial)) (fun h => (OpJ.move rfl rfl)) ?_
              refine AList.g 246 242 rfl rfl rfl rfl rfl rfl rfl [(244, _), (245, _)] (fun h => And.intro (.inr ⟨_, rfl, h⟩) (And.intro (.inr ⟨_, rfl, h⟩) (trivial))) (fun h => (OpJ.indexGI (g := sh s) (fun _ h => sh_get h) rfl rfl rfl sl23 el23 rfl (fun _ => rfl) (by decide) (by omega) (by omega))) ?_
              refine AList.g 247 242 rfl rfl rfl rfl rfl rfl rfl [(246, _)] (fun h => And.intro (.inr ⟨_, rfl, h⟩) (trivial)) (fun h => (OpJ.fieldAddr rfl rfl fd66_2 rfl)) ?_
              refine AList.g 248 242 rfl rfl rfl rfl rfl rfl rfl [(247, _)] (fun h => And.intro (.inr ⟨_, rfl, h⟩) (trivial)) (fun h => (OpJ.fieldAddr rfl rfl fd25_0 rfl)) ?_
              refine AList.g 249 242 rfl rfl rfl rfl rfl rfl rfl [(248, _)] (fun h => And.intro (.inr ⟨_, rfl, h⟩) (trivial)) (fun h => (OpJ.load rfl rfl ty3 rfl)) ?_
              refine AList.g 250 242 rfl rfl rfl rfl rfl rfl rfl [(243, _), (249, _)] (fun h => And.intro (.inr ⟨_, rfl, h⟩) (And.intro (.inr ⟨_, rfl, h⟩) (trivial))) (fun h => (OpJ.lss rfl rfl rfl)) ?_
              refine AList.c 251 rfl rfl rfl (OpJ.or_ rfl rfl rfl ?_) ?_
              · first | (intro h; rw [h]; rfl) | (intro h; simp_all)
              refine AList.c 252 rfl rfl rfl (OpJ.move rfl rfl) ?_
              refine AList.g 253 252 rfl rfl rfl rfl rfl rfl rfl [(22, _)] (fun h => And.intro (.inl rfl) (trivial)) (fun h => (OpJ.move rfl rfl)) ?_
              refine AList.g 254 252 rfl rfl rfl rfl rfl rfl rfl [(2, _)] (fun h => And.intro (.inl rfl) (trivial)) (fun h => (OpJ.move rfl rfl)) ?_
              refine AList.g 255 252 rfl rfl rfl rfl rfl rfl rfl [(24, _)] (fun h => And.intro (.inl rfl) (trivial)) (fun h => (OpJ.move rfl rfl)) ?_
              refine AList.g 256 252 rfl rfl rfl rfl rfl rfl rfl [(254, _), (255, _)] (fun h => And.intro (.inr ⟨_, rfl, h⟩) (And.intro (.inr ⟨_, rfl, h⟩) (trivial))) (fun h => (OpJ.indexGI (g := sh s) (fun _ h => sh_get h) rfl rfl rfl sl23 el23 rfl (fun _ => rfl) (by decide) (by omega) (by omega))) ?_
              refine AList.g 257 252 rfl rfl rfl rfl rfl rfl rfl [(256, _)] (fun h => And.intro (.inr ⟨_, rfl, h⟩) (trivial)) (fun h => (OpJ.fieldAddr rfl rfl fd66_2 rfl)) ?_
              refine AList.g 258 252 rfl rfl rfl rfl rfl rfl rfl [(257, _)] (fun h => And.intro (.inr ⟨_, rfl, h⟩) (trivial)) (fun h => (OpJ.fieldAddr rfl rfl fd25_1 rfl)) ?_
              refine AList.g 259 252 rfl rfl rfl rfl rfl rfl rfl [(258, _)] (fun h => And.intro (.inr ⟨_, rfl, h⟩) (trivial)) (fun h => (OpJ.load rfl rfl ty3 rfl)) ?_
              refine AList.g 260 252 rfl rfl rfl rfl rfl rfl rfl [(253, _), (259, _)] (fun h => And.intro (.inr ⟨_, rfl, h⟩) (And.intro (.inr ⟨_, rfl, h⟩) (trivial))) (fun h => (OpJ.gtr rfl rfl rfl)) ?_
              refine AList.c 261 rfl rfl rfl (OpJ.or_ rfl rfl rfl ?_) ?_
              · first | (intro h; rw [h]; rfl) | (intro h; simp_all)
              refine AList.nil ?_
              refine AWp.cond _ rfl (fun hc7 => ?_) (fun hc7 => ?_)
              · skip
                exfalso
                rw [hjt, hnj] at hc7
                have hQ3 : (sh s j).blo ≤ (blk c (truL l n ys)).1 ∧ (blk c (truL l n ys)).2 ≤ (sh s j).bhi ∧ (sh s j).slo ≤ l.slo ∧ l.shi ≤ (sh s j).shi ∧ (sh s j).wlo ≤ l.wlo ∧ l.whi ≤ (sh s j).whi := hQ2
                simp at hc7
                omega
              · skip
                refine AWp.skip ?_
                refine AWp.region ?_
                refine AList.c 262 rfl rfl rfl (OpJ.add rfl rfl rfl (i64ok ?_)) ?_
                · omega
                refine AList.c 190 rfl rfl rfl (OpJ.move rfl rfl) ?_
                refine AList.nil ?_
                refine ⟨i + 1, ?_, ?_, ?_⟩
                · omega
                · omega
                exact To.done [] rfl (by repeat (first | exact Sub.nil | refine Sub.cons rfl ?_)) rfl
            · skip
              refine AWp.exit ?_
              refine AWp.seq ?_
              refine AWp.region ?_
              refine AList.c 263 rfl rfl rfl (OpJ.callP (alive_ok) rfl rfl rfl rfl rf14) ?_
              refine AList.c 8 rfl rfl rfl (OpJ.assign rfl rfl) ?_
              refine AList.nil ?_
              refine AWp.ret ?_
              exact Fin.oneE rfl rfl rfl
theorem shadeTrue_law {x0 x1 x2 x3 : List PV} (h0 : TyL [.sl [.leaf (.int .i64), .leaf (.int .i64)]] x0) (h1 : TyL [.leaf (.int .i64), .leaf (.int .i64), .leaf (.int .i64), .leaf (.int .i64), .leaf (.int .i64), .sl [.leaf (.int .i64), .leaf (.int .i64), .leaf (.int .i64), .leaf (.int .i64)], .leaf (.int .i64), .leaf (.int .i64), .leaf (.int .i64), .leaf (.int .i64), .leaf (.int .i64)] x1) (h2 : TyL [.sl [.leaf (.int .i64), .leaf (.int .i64), .leaf (.int .i64), .leaf (.int .i64), .leaf (.int .i64), .leaf (.int .i64)]] x2) (h3 : TyL [.sl [.leaf (.int .u32)]] x3) : Pure Try.prog 6 [argP false x0, argP true x1, argP false x2, argP false x3] (.bool true) := by
  obtain ⟨c, rfl, hc⟩ := cur_of h0
  obtain ⟨l, rfl, hl⟩ := ld_of h1
  obtain ⟨s, rfl, hs⟩ := shds_of h2
  obtain ⟨ys, rfl, hy, hys⟩ := u32l_of h3
  exact shadeTrue_main c l s ys hc hl hs hy hys
end Go.Proofs.Ythiapodcippnoaa
