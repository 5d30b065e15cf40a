/-
  CoatBest.
-/
import Derived.Test.YtibgdkaipleajaaCuF4
import Derived.Test.YtibgdkaipleajaaCuI
import Derived.Test.YtibgdkaipleajaaCuP4
section
set_option linter.unusedVariables false
set_option maxRecDepth 100000
set_option maxHeartbeats 4000000
set_option linter.unusedSimpArgs false
namespace Go.Proofs.Ytibgdkaipleajaa
open Go.AF
theorem best_C {p : Pnt} (hb : p.bs.length ≤ 8) (hbd : ∀ b ∈ p.bs, b.dry.length ≤ 14) {r : Bst × Int} (h : bestR p = r) : Pure Try.prog 18 [pntV p] (.tuple [ordV r.1, .int .i64 (hrV r.1), .int .i64 r.2]) := by
  have h2 := best_ok p hb hbd
  rwa [h] at h2
theorem best_S {p : Pnt} (hb : p.bs.length ≤ 8) (hbd : ∀ b ∈ p.bs, b.dry.length ≤ 14) {b : List Int} {t : Int} (h : bestR p = (some (b, t), 0)) : Pure Try.prog 18 [pntV p] (.tuple [intsV b, .int .i64 t, .int .i64 0]) := best_C hb hbd h
theorem done_M {p : Pnt} {o : List Int} (ho : o.length ≤ 1000) (h : (timesR p o).2.2 = 0) : Pure Try.prog 24 [pntV p, dpsV (mkD p o o.length)] (.int .i64 (dnN p o)) := by
  obtain ⟨hT, hall, _, _⟩ := times_0 h
  have h2 := done_T hT ho h
  unfold dxV at h2
  rwa [if_pos h] at h2
theorem lawBest_F (p : Pnt) (by_ : List Nat) (hby : by_.length ≤ bigN) (h255 : ∀ x ∈ by_, x ≤ 255) (hbb : p.bs.length ≤ bigN) (hT : pntB p = false) : Pure Try.prog 7 [pntV p, bysV by_] (.bool true) := by
  refine Pure.start (N := 140) Try.func7 rfl rfl (Nat.le_of_ble_eq_true rfl) ?_
  refine AWp.seq ?_
  refine AWp.region ?_
  refine AList.c 2 rfl rfl rfl (OpJ.boxImm rfl rfl rfl) ?_
  refine AList.c 4 rfl rfl rfl (OpJ.assign rfl rfl) ?_
  refine AList.nil ?_
  refine AWp.seq ?_
  refine AWp.seq ?_
  refine AWp.region ?_
  refine AList.c 15 rfl rfl rfl (OpJ.load (v := .p (pntV p)) rfl rfl ty24 rfl) ?_
  refine AList.c 16 rfl rfl rfl (OpJ.callP (large_ok p 8 hbb) rfl rfl rfl rfl rf9) ?_
  refine AList.c 17 rfl rfl rfl (OpJ.move rfl rfl) ?_
  refine AList.g 18 17 rfl rfl rfl rfl rfl rfl rfl [(1, _)] (fun h => And.intro (.inl rfl) (trivial)) (fun h => (OpJ.move rfl rfl)) ?_
  refine AList.g 19 17 rfl rfl rfl rfl rfl rfl rfl [(18, _)] (fun h => And.intro (.inr ⟨_, rfl, h⟩) (trivial)) (fun h => (OpJ.lenSlice rfl rfl sl42 rfl)) ?_
  refine AList.g 20 17 rfl rfl rfl rfl rfl rfl rfl [(19, _)] (fun h => And.intro (.inr ⟨_, rfl, h⟩) (trivial)) (fun h => (OpJ.eql rfl rfl rfl)) ?_
  refine AList.c 21 rfl rfl rfl (OpJ.or_ rfl rfl rfl ?_) ?_
  · first | (intro h; rw [h]; rfl) | (intro h; simp_all)
  refine AList.nil ?_
  refine AWp.cond _ rfl (fun hc0 => ?_) (fun hc0 => ?_)
  · skip
    refine AWp.seq ?_
    refine AWp.region ?_
    refine AList.c 22 rfl rfl rfl (OpJ.callP (awake_ok) rfl rfl rfl rfl rf10) ?_
    refine AList.c 4 rfl rfl rfl (OpJ.assign rfl rfl) ?_
    refine AList.nil ?_
    refine AWp.ret ?_
    exact Fin.oneE rfl rfl rfl
  · skip
    have hc : (lrgB p 8 || decide ((by_.length : Int) = 0)) = false := hc0
    rw [Bool.or_eq_false_iff] at hc
    have hby0 : 0 < by_.length := by have h := of_decide_eq_false hc.2; omega
    obtain ⟨hb, hbd, _⟩ := lrg_no hc.1
    refine AWp.skip ?_
    refine AWp.seq ?_
    refine AWp.region ?_
    refine AList.c 24 rfl rfl rfl (OpJ.load (v := .p (pntV p)) rfl rfl ty24 rfl) ?_
    refine AList.c 25 rfl rfl rfl (OpJ.callP (best_C hb hbd (best_F hT)) rfl rfl rfl rfl rf18) ?_
    refine AList.c 23 rfl rfl rfl (OpJ.move rfl rfl) ?_
    refine AList.c 26 rfl rfl rfl (OpJ.extract rfl rfl rfl) ?_
    refine AList.c 27 rfl rfl rfl (OpJ.extract rfl rfl rfl) ?_
    refine AList.c 28 rfl rfl rfl (OpJ.extract rfl rfl rfl) ?_
    refine AList.c 5 rfl rfl rfl (OpJ.assign rfl rfl) ?_
    refine AList.c 6 rfl rfl rfl (OpJ.assign rfl rfl) ?_
    refine AList.c 7 rfl rfl rfl (OpJ.assign rfl rfl) ?_
    refine AList.nil ?_
    refine AWp.seq ?_
    refine AWp.seq ?_
    refine AWp.region ?_
    refine AList.c 29 rfl rfl rfl (OpJ.load (v := .p (pntV p)) rfl rfl ty24 rfl) ?_
    refine AList.c 30 rfl rfl rfl (OpJ.callP (rPaint_ok p hb hbd) rfl rfl rfl rfl rf20) ?_
    refine AList.c 31 rfl rfl rfl (OpJ.not_ rfl rfl) ?_
    refine AList.nil ?_
    refine AWp.cond _ rfl (fun hc1 => ?_) (fun hc1 => ?_)
    · skip
      refine AWp.seq ?_
      refine AWp.region ?_
      refine AList.c 32 rfl rfl rfl (OpJ.move rfl rfl) ?_
      refine AList.c 33 rfl rfl rfl (OpJ.lenSlice rfl rfl sl26 rfl) ?_
      refine AList.c 34 rfl rfl rfl (OpJ.eql rfl rfl rfl) ?_
      refine AList.c 35 rfl rfl rfl (OpJ.move rfl rfl) ?_
      refine AList.g 36 35 rfl rfl rfl rfl rfl rfl rfl [(6, _)] (fun h => And.intro (.inl rfl) (trivial)) (fun h => (OpJ.move rfl rfl)) ?_
      refine AList.g 37 35 rfl rfl rfl rfl rfl rfl rfl [(36, _)] (fun h => And.intro (.inr ⟨_, rfl, h⟩) (trivial)) (fun h => (OpJ.eql rfl rfl rfl)) ?_
      refine AList.c 38 rfl rfl rfl (OpJ.and_ rfl rfl rfl ?_) ?_
      · first | (intro h; rw [h]; rfl) | (intro h; simp_all)
      refine AList.c 39 rfl rfl rfl (OpJ.move rfl rfl) ?_
      refine AList.g 40 39 rfl rfl rfl rfl rfl rfl rfl [(7, _)] (fun h => And.intro (.inl rfl) (trivial)) (fun h => (OpJ.move rfl rfl)) ?_
      refine AList.g 41 39 rfl rfl rfl rfl rfl rfl rfl [(40, _)] (fun h => And.intro (.inr ⟨_, rfl, h⟩) (trivial)) (fun h => (OpJ.eql rfl rfl rfl)) ?_
      refine AList.c 42 rfl rfl rfl (OpJ.and_ rfl rfl rfl ?_) ?_
      · first | (intro h; rw [h]; rfl) | (intro h; simp_all)
      refine AList.c 43 rfl rfl rfl (OpJ.move rfl rfl) ?_
      refine AList.g 44 43 rfl rfl rfl rfl rfl rfl rfl [] (fun h => trivial) (fun h => (OpJ.callP (awake_ok) rfl rfl rfl rfl rf10)) ?_
      refine AList.c 45 rfl rfl rfl (OpJ.and_ rfl rfl rfl ?_) ?_
      · first | (intro h; rw [h]; rfl) | (intro h; simp_all)
      refine AList.c 4 rfl rfl rfl (OpJ.assign rfl rfl) ?_
      refine AList.nil ?_
      refine AWp.ret ?_
      refine Fin.oneE rfl rfl ?_
      rfl
    · skip
      exfalso
      rw [hT] at hc1
      cases hc1
theorem lawBest_N (p : Pnt) (by_ : List Nat) (hby : by_.length ≤ bigN) (h255 : ∀ x ∈ by_, x ≤ 255) (hbb : p.bs.length ≤ bigN) (hT : pntB p = true) (hB : bestR p = (none, 4)) (hE : ¬ (timesR p (ordN p by_ 9)).2.2 = 0) : Pure Try.prog 7 [pntV p, bysV by_] (.bool true) := by
  refine Pure.start (N := 140) Try.func7 rfl rfl (Nat.le_of_ble_eq_true rfl) ?_
  refine AWp.seq ?_
  refine AWp.region ?_
  refine AList.c 2 rfl rfl rfl (OpJ.boxImm rfl rfl rfl) ?_
  refine AList.c 4 rfl rfl rfl (OpJ.assign rfl rfl) ?_
  refine AList.nil ?_
  refine AWp.seq ?_
  refine AWp.seq ?_
  refine AWp.region ?_
  refine AList.c 15 rfl rfl rfl (OpJ.load (v := .p (pntV p)) rfl rfl ty24 rfl) ?_
  refine AList.c 16 rfl rfl rfl (OpJ.callP (large_ok p 8 hbb) rfl rfl rfl rfl rf9) ?_
  refine AList.c 17 rfl rfl rfl (OpJ.move rfl rfl) ?_
  refine AList.g 18 17 rfl rfl rfl rfl rfl rfl rfl [(1, _)] (fun h => And.intro (.inl rfl) (trivial)) (fun h => (OpJ.move rfl rfl)) ?_
  refine AList.g 19 17 rfl rfl rfl rfl rfl rfl rfl [(18, _)] (fun h => And.intro (.inr ⟨_, rfl, h⟩) (trivial)) (fun h => (OpJ.lenSlice rfl rfl sl42 rfl)) ?_
  refine AList.g 20 17 rfl rfl rfl rfl rfl rfl rfl [(19, _)] (fun h => And.intro (.inr ⟨_, rfl, h⟩) (trivial)) (fun h => (OpJ.eql rfl rfl rfl)) ?_
  refine AList.c 21 rfl rfl rfl (OpJ.or_ rfl rfl rfl ?_) ?_
  · first | (intro h; rw [h]; rfl) | (intro h; simp_all)
  refine AList.nil ?_
  refine AWp.cond _ rfl (fun hc0 => ?_) (fun hc0 => ?_)
  · skip
    refine AWp.seq ?_
    refine AWp.region ?_
    refine AList.c 22 rfl rfl rfl (OpJ.callP (awake_ok) rfl rfl rfl rfl rf10) ?_
    refine AList.c 4 rfl rfl rfl (OpJ.assign rfl rfl) ?_
    refine AList.nil ?_
    refine AWp.ret ?_
    exact Fin.oneE rfl rfl rfl
  · skip
    have hc : (lrgB p 8 || decide ((by_.length : Int) = 0)) = false := hc0
    rw [Bool.or_eq_false_iff] at hc
    have hby0 : 0 < by_.length := by have h := of_decide_eq_false hc.2; omega
    obtain ⟨hb, hbd, _⟩ := lrg_no hc.1
    have hp := pnt_ok hT
    have hol := ordN_all hp by_
    have hc9 := hp.all
    have hcp := coats_pos hp
    refine AWp.skip ?_
    refine AWp.seq ?_
    refine AWp.region ?_
    refine AList.c 24 rfl rfl rfl (OpJ.load (v := .p (pntV p)) rfl rfl ty24 rfl) ?_
    refine AList.c 25 rfl rfl rfl (OpJ.callP (best_C hb hbd hB) rfl rfl rfl rfl rf18) ?_
    refine AList.c 23 rfl rfl rfl (OpJ.move rfl rfl) ?_
    refine AList.c 26 rfl rfl rfl (OpJ.extract rfl rfl rfl) ?_
    refine AList.c 27 rfl rfl rfl (OpJ.extract rfl rfl rfl) ?_
    refine AList.c 28 rfl rfl rfl (OpJ.extract rfl rfl rfl) ?_
    refine AList.c 5 rfl rfl rfl (OpJ.assign rfl rfl) ?_
    refine AList.c 6 rfl rfl rfl (OpJ.assign rfl rfl) ?_
    refine AList.c 7 rfl rfl rfl (OpJ.assign rfl rfl) ?_
    refine AList.nil ?_
    refine AWp.seq ?_
    refine AWp.seq ?_
    refine AWp.region ?_
    refine AList.c 29 rfl rfl rfl (OpJ.load (v := .p (pntV p)) rfl rfl ty24 rfl) ?_
    refine AList.c 30 rfl rfl rfl (OpJ.callP (rPaint_ok p hb hbd) rfl rfl rfl rfl rf20) ?_
    refine AList.c 31 rfl rfl rfl (OpJ.not_ rfl rfl) ?_
    refine AList.nil ?_
    refine AWp.cond _ rfl (fun hc1 => ?_) (fun hc1 => ?_)
    · skip
      exfalso
      rw [hT] at hc1
      cases hc1
    · skip
      refine AWp.skip ?_
      refine AWp.seq ?_
      refine AWp.region ?_
      refine AList.c 46 rfl rfl rfl (OpJ.load (v := .p (pntV p)) rfl rfl ty24 rfl) ?_
      refine AList.c 47 rfl rfl rfl (OpJ.move rfl rfl) ?_
      refine AList.c 48 rfl rfl rfl (OpJ.callP (order_ok p hp by_ hby0 hby h255) rfl rfl rfl rfl rf21) ?_
      refine AList.c 8 rfl rfl rfl (OpJ.assign rfl rfl) ?_
      refine AList.nil ?_
      refine AWp.seq ?_
      refine AWp.region ?_
      refine AList.c 50 rfl rfl rfl (OpJ.load (v := .p (pntV p)) rfl rfl ty24 rfl) ?_
      refine AList.c 51 rfl rfl rfl (OpJ.move rfl rfl) ?_
      refine AList.c 52 rfl rfl rfl (OpJ.callP (lDips_N p _ hb hbd hE (by omega)) rfl rfl rfl rfl rf22) ?_
      refine AList.c 49 rfl rfl rfl (OpJ.move rfl rfl) ?_
      refine AList.c 53 rfl rfl rfl (OpJ.extract rfl rfl rfl) ?_
      refine AList.c 54 rfl rfl rfl (OpJ.extract rfl rfl rfl) ?_
      refine AList.c 9 rfl rfl rfl (OpJ.assign rfl rfl) ?_
      refine AList.c 10 rfl rfl rfl (OpJ.assign rfl rfl) ?_
      refine AList.nil ?_
      refine AWp.seq ?_
      refine AWp.seq ?_
      refine AWp.region ?_
      refine AList.c 55 rfl rfl rfl (OpJ.move rfl rfl) ?_
      refine AList.c 56 rfl rfl rfl (OpJ.neq rfl rfl rfl) ?_
      refine AList.nil ?_
      refine AWp.cond _ rfl (fun hc2 => ?_) (fun hc2 => ?_)
      · skip
        refine AWp.seq ?_
        refine AWp.region ?_
        refine AList.c 57 rfl rfl rfl (OpJ.move rfl rfl) ?_
        refine AList.c 58 rfl rfl rfl (OpJ.lenSlice rfl rfl sl26 rfl) ?_
        refine AList.c 59 rfl rfl rfl (OpJ.eql rfl rfl rfl) ?_
        refine AList.c 60 rfl rfl rfl (OpJ.move rfl rfl) ?_
        refine AList.g 61 60 rfl rfl rfl rfl rfl rfl rfl [(6, _)] (fun h => And.intro (.inl rfl) (trivial)) (fun h => (OpJ.move rfl rfl)) ?_
        refine AList.g 62 60 rfl rfl rfl rfl rfl rfl rfl [(61, _)] (fun h => And.intro (.inr ⟨_, rfl, h⟩) (trivial)) (fun h => (OpJ.eql rfl rfl rfl)) ?_
        refine AList.c 63 rfl rfl rfl (OpJ.and_ rfl rfl rfl ?_) ?_
        · first | (intro h; rw [h]; rfl) | (intro h; simp_all)
        refine AList.c 64 rfl rfl rfl (OpJ.move rfl rfl) ?_
        refine AList.g 65 64 rfl rfl rfl rfl rfl rfl rfl [(7, _)] (fun h => And.intro (.inl rfl) (trivial)) (fun h => (OpJ.move rfl rfl)) ?_
        refine AList.g 66 64 rfl rfl rfl rfl rfl rfl rfl [(65, _)] (fun h => And.intro (.inr ⟨_, rfl, h⟩) (trivial)) (fun h => (OpJ.eql rfl rfl rfl)) ?_
        refine AList.c 67 rfl rfl rfl (OpJ.and_ rfl rfl rfl ?_) ?_
        · first | (intro h; rw [h]; rfl) | (intro h; simp_all)
        refine AList.c 68 rfl rfl rfl (OpJ.move rfl rfl) ?_
        refine AList.g 69 68 rfl rfl rfl rfl rfl rfl rfl [(10, _)] (fun h => And.intro (.inl rfl) (trivial)) (fun h => (OpJ.move rfl rfl)) ?_
        refine AList.g 70 68 rfl rfl rfl rfl rfl rfl rfl [(69, _)] (fun h => And.intro (.inr ⟨_, rfl, h⟩) (trivial)) (fun h => (OpJ.not_ rfl rfl)) ?_
        refine AList.c 71 rfl rfl rfl (OpJ.and_ rfl rfl rfl ?_) ?_
        · first | (intro h; rw [h]; rfl) | (intro h; simp_all)
        refine AList.c 72 rfl rfl rfl (OpJ.move rfl rfl) ?_
        refine AList.g 73 72 rfl rfl rfl rfl rfl rfl rfl [] (fun h => trivial) (fun h => (OpJ.callP (awake_ok) rfl rfl rfl rfl rf10)) ?_
        refine AList.c 74 rfl rfl rfl (OpJ.and_ rfl rfl rfl ?_) ?_
        · first | (intro h; rw [h]; rfl) | (intro h; simp_all)
        refine AList.c 4 rfl rfl rfl (OpJ.assign rfl rfl) ?_
        refine AList.nil ?_
        refine AWp.ret ?_
        refine Fin.oneE rfl rfl ?_
        rfl
      · skip
        cases hc2
theorem lawBest_E (p : Pnt) (by_ : List Nat) (hby : by_.length ≤ bigN) (h255 : ∀ x ∈ by_, x ≤ 255) (hbb : p.bs.length ≤ bigN) (hT : pntB p = true) (b : List Int) (hB : bestR p = (some (b, dnN p b), 0)) (hbl : b.length = coats p) (h0 : (timesR p b).2.2 = 0) (hE : ¬ (timesR p (ordN p by_ 9)).2.2 = 0) : Pure Try.prog 7 [pntV p, bysV by_] (.bool true) := by
  refine Pure.start (N := 140) Try.func7 rfl rfl (Nat.le_of_ble_eq_true rfl) ?_
  refine AWp.seq ?_
  refine AWp.region ?_
  refine AList.c 2 rfl rfl rfl (OpJ.boxImm rfl rfl rfl) ?_
  refine AList.c 4 rfl rfl rfl (OpJ.assign rfl rfl) ?_
  refine AList.nil ?_
  refine AWp.seq ?_
  refine AWp.seq ?_
  refine AWp.region ?_
  refine AList.c 15 rfl rfl rfl (OpJ.load (v := .p (pntV p)) rfl rfl ty24 rfl) ?_
  refine AList.c 16 rfl rfl rfl (OpJ.callP (large_ok p 8 hbb) rfl rfl rfl rfl rf9) ?_
  refine AList.c 17 rfl rfl rfl (OpJ.move rfl rfl) ?_
  refine AList.g 18 17 rfl rfl rfl rfl rfl rfl rfl [(1, _)] (fun h => And.intro (.inl rfl) (trivial)) (fun h => (OpJ.move rfl rfl)) ?_
  refine AList.g 19 17 rfl rfl rfl rfl rfl rfl rfl [(18, _)] (fun h => And.intro (.inr ⟨_, rfl, h⟩) (trivial)) (fun h => (OpJ.lenSlice rfl rfl sl42 rfl)) ?_
  refine AList.g 20 17 rfl rfl rfl rfl rfl rfl rfl [(19, _)] (fun h => And.intro (.inr ⟨_, rfl, h⟩) (trivial)) (fun h => (OpJ.eql rfl rfl rfl)) ?_
  refine AList.c 21 rfl rfl rfl (OpJ.or_ rfl rfl rfl ?_) ?_
  · first | (intro h; rw [h]; rfl) | (intro h; simp_all)
  refine AList.nil ?_
  refine AWp.cond _ rfl (fun hc0 => ?_) (fun hc0 => ?_)
  · skip
    refine AWp.seq ?_
    refine AWp.region ?_
    refine AList.c 22 rfl rfl rfl (OpJ.callP (awake_ok) rfl rfl rfl rfl rf10) ?_
    refine AList.c 4 rfl rfl rfl (OpJ.assign rfl rfl) ?_
    refine AList.nil ?_
    refine AWp.ret ?_
    exact Fin.oneE rfl rfl rfl
  · skip
    have hc : (lrgB p 8 || decide ((by_.length : Int) = 0)) = false := hc0
    rw [Bool.or_eq_false_iff] at hc
    have hby0 : 0 < by_.length := by have h := of_decide_eq_false hc.2; omega
    obtain ⟨hb, hbd, _⟩ := lrg_no hc.1
    have hp := pnt_ok hT
    have hol := ordN_all hp by_
    have hc9 := hp.all
    have hcp := coats_pos hp
    have hml := mkD_len p b b.length
    refine AWp.skip ?_
    refine AWp.seq ?_
    refine AWp.region ?_
    refine AList.c 24 rfl rfl rfl (OpJ.load (v := .p (pntV p)) rfl rfl ty24 rfl) ?_
    refine AList.c 25 rfl rfl rfl (OpJ.callP (best_S hb hbd hB) rfl rfl rfl rfl rf18) ?_
    refine AList.c 23 rfl rfl rfl (OpJ.move rfl rfl) ?_
    refine AList.c 26 rfl rfl rfl (OpJ.extract rfl rfl rfl) ?_
    refine AList.c 27 rfl rfl rfl (OpJ.extract rfl rfl rfl) ?_
    refine AList.c 28 rfl rfl rfl (OpJ.extract rfl rfl rfl) ?_
    refine AList.c 5 rfl rfl rfl (OpJ.assign rfl rfl) ?_
    refine AList.c 6 rfl rfl rfl (OpJ.assign rfl rfl) ?_
    refine AList.c 7 rfl rfl rfl (OpJ.assign rfl rfl) ?_
    refine AList.nil ?_
    refine AWp.seq ?_
    refine AWp.seq ?_
    refine AWp.region ?_
    refine AList.c 29 rfl rfl rfl (OpJ.load (v := .p (pntV p)) rfl rfl ty24 rfl) ?_
    refine AList.c 30 rfl rfl rfl (OpJ.callP (rPaint_ok p hb hbd) rfl rfl rfl rfl rf20) ?_
    refine AList.c 31 rfl rfl rfl (OpJ.not_ rfl rfl) ?_
    refine AList.nil ?_
    refine AWp.cond _ rfl (fun hc1 => ?_) (fun hc1 => ?_)
    · skip
      exfalso
      rw [hT] at hc1
      cases hc1
    · skip
      refine AWp.skip ?_
      refine AWp.seq ?_
      refine AWp.region ?_
      refine AList.c 46 rfl rfl rfl (OpJ.load (v := .p (pntV p)) rfl rfl ty24 rfl) ?_
      refine AList.c 47 rfl rfl rfl (OpJ.move rfl rfl) ?_
      refine AList.c 48 rfl rfl rfl (OpJ.callP (order_ok p hp by_ hby0 hby h255) rfl rfl rfl rfl rf21) ?_
      refine AList.c 8 rfl rfl rfl (OpJ.assign rfl rfl) ?_
      refine AList.nil ?_
      refine AWp.seq ?_
      refine AWp.region ?_
      refine AList.c 50 rfl rfl rfl (OpJ.load (v := .p (pntV p)) rfl rfl ty24 rfl) ?_
      refine AList.c 51 rfl rfl rfl (OpJ.move rfl rfl) ?_
      refine AList.c 52 rfl rfl rfl (OpJ.callP (lDips_N p _ hb hbd hE (by omega)) rfl rfl rfl rfl rf22) ?_
      refine AList.c 49 rfl rfl rfl (OpJ.move rfl rfl) ?_
      refine AList.c 53 rfl rfl rfl (OpJ.extract rfl rfl rfl) ?_
      refine AList.c 54 rfl rfl rfl (OpJ.extract rfl rfl rfl) ?_
      refine AList.c 9 rfl rfl rfl (OpJ.assign rfl rfl) ?_
      refine AList.c 10 rfl rfl rfl (OpJ.assign rfl rfl) ?_
      refine AList.nil ?_
      refine AWp.seq ?_
      refine AWp.seq ?_
      refine AWp.region ?_
      refine AList.c 55 rfl rfl rfl (OpJ.move rfl rfl) ?_
      refine AList.c 56 rfl rfl rfl (OpJ.neq rfl rfl rfl) ?_
      refine AList.nil ?_
      refine AWp.cond _ rfl (fun hc2 => ?_) (fun hc2 => ?_)
      · skip
        cases hc2
      · skip
        refine AWp.skip ?_
        refine AWp.seq ?_
        refine AWp.region ?_
        refine AList.c 76 rfl rfl rfl (OpJ.load (v := .p (pntV p)) rfl rfl ty24 rfl) ?_
        refine AList.c 77 rfl rfl rfl (OpJ.move rfl rfl) ?_
        refine AList.c 78 rfl rfl rfl (OpJ.callP (lDips_P p b hb hbd h0 (by omega)) rfl rfl rfl rfl rf22) ?_
        refine AList.c 75 rfl rfl rfl (OpJ.move rfl rfl) ?_
        refine AList.c 79 rfl rfl rfl (OpJ.extract rfl rfl rfl) ?_
        refine AList.c 80 rfl rfl rfl (OpJ.extract rfl rfl rfl) ?_
        refine AList.c 11 rfl rfl rfl (OpJ.assign rfl rfl) ?_
        refine AList.c 12 rfl rfl rfl (OpJ.assign rfl rfl) ?_
        refine AList.nil ?_
        refine AWp.seq ?_
        refine AWp.seq ?_
        refine AWp.region ?_
        refine AList.c 81 rfl rfl rfl (OpJ.move rfl rfl) ?_
        refine AList.c 82 rfl rfl rfl (OpJ.not_ rfl rfl) ?_
        refine AList.c 83 rfl rfl rfl (OpJ.move rfl rfl) ?_
        refine AList.g 84 83 rfl rfl rfl rfl rfl rfl rfl [(2, _)] (fun h => And.intro (.inl rfl) (trivial)) (fun h => (OpJ.load (v := .p (pntV p)) rfl rfl ty24 rfl)) ?_
        refine AList.g 85 83 rfl rfl rfl rfl rfl rfl rfl [(11, _)] (fun h => And.intro (.inl rfl) (trivial)) (fun h => (OpJ.move rfl rfl)) ?_
        refine AList.g 86 83 rfl rfl rfl rfl rfl rfl rfl [(84, _), (85, _)] (fun h => And.intro (.inr ⟨_, rfl, h⟩) (And.intro (.inr ⟨_, rfl, h⟩) (trivial))) (fun h => (OpJ.callP (done_M (o := b) (by omega) h0) rfl rfl rfl rfl rf24)) ?_
        refine AList.g 87 83 rfl rfl rfl rfl rfl rfl rfl [(6, _)] (fun h => And.intro (.inl rfl) (trivial)) (fun h => (OpJ.move rfl rfl)) ?_
        refine AList.g 88 83 rfl rfl rfl rfl rfl rfl rfl [(86, _), (87, _)] (fun h => And.intro (.inr ⟨_, rfl, h⟩) (And.intro (.inr ⟨_, rfl, h⟩) (trivial))) (fun h => (OpJ.neq rfl rfl rfl)) ?_
        refine AList.c 89 rfl rfl rfl (OpJ.or_ rfl rfl rfl ?_) ?_
        · first | (intro h; rw [h]; rfl) | (intro h; simp_all)
        refine AList.c 90 rfl rfl rfl (OpJ.move rfl rfl) ?_
        refine AList.g 91 90 rfl rfl rfl rfl rfl rfl rfl [(11, _)] (fun h => And.intro (.inl rfl) (trivial)) (fun h => (OpJ.move rfl rfl)) ?_
        refine AList.g 92 90 rfl rfl rfl rfl rfl rfl rfl [(91, _)] (fun h => And.intro (.inr ⟨_, rfl, h⟩) (trivial)) (fun h => (OpJ.lenSlice rfl rfl sl25 rfl)) ?_
        refine AList.g 93 90 rfl rfl rfl rfl rfl rfl rfl [(8, _)] (fun h => And.intro (.inl rfl) (trivial)) (fun h => (OpJ.move rfl rfl)) ?_
        refine AList.g 94 90 rfl rfl rfl rfl rfl rfl rfl [(93, _)] (fun h => And.intro (.inr ⟨_, rfl, h⟩) (trivial)) (fun h => (OpJ.lenSlice rfl rfl sl26 rfl)) ?_
        refine AList.g 95 90 rfl rfl rfl rfl rfl rfl rfl [(92, _), (94, _)] (fun h => And.intro (.inr ⟨_, rfl, h⟩) (And.intro (.inr ⟨_, rfl, h⟩) (trivial))) (fun h => (OpJ.neq rfl rfl rfl)) ?_
        refine AList.c 96 rfl rfl rfl (OpJ.or_ rfl rfl rfl ?_) ?_
        · first | (intro h; rw [h]; rfl) | (intro h; simp_all)
        refine AList.nil ?_
        refine AWp.cond _ rfl (fun hc3 => ?_) (fun hc3 => ?_)
        · skip
          exfalso
          simp [mkD_len, hbl, hol] at hc3
        · skip
          refine AWp.skip ?_
          refine AWp.seq ?_
          refine AWp.seq ?_
          refine AWp.region ?_
          refine AList.c 97 rfl rfl rfl (OpJ.move rfl rfl) ?_
          refine AList.c 98 rfl rfl rfl (OpJ.not_ rfl rfl) ?_
          refine AList.nil ?_
          refine AWp.cond _ rfl (fun hc4 => ?_) (fun hc4 => ?_)
          · skip
            refine AWp.seq ?_
            refine AWp.region ?_
            refine AList.c 99 rfl rfl rfl (OpJ.callP (awake_ok) rfl rfl rfl rfl rf10) ?_
            refine AList.c 4 rfl rfl rfl (OpJ.assign rfl rfl) ?_
            refine AList.nil ?_
            refine AWp.ret ?_
            exact Fin.oneE rfl rfl rfl
          · skip
            cases hc4
theorem lawBest_S (p : Pnt) (by_ : List Nat) (hby : by_.length ≤ bigN) (h255 : ∀ x ∈ by_, x ≤ 255) (hbb : p.bs.length ≤ bigN) (hT : pntB p = true) (b : List Int) (hB : bestR p = (some (b, dnN p b), 0)) (hbl : b.length = coats p) (h0 : (timesR p b).2.2 = 0) (hO : (timesR p (ordN p by_ 9)).2.2 = 0) (hle : dnN p b ≤ dnN p (ordN p by_ 9)) (hlx : dnN p (ordN p by_ 9) = dnN p b → LexLe b (ordN p by_ 9)) : Pure Try.prog 7 [pntV p, bysV by_] (.bool true) := by
  refine Pure.start (N := 140) Try.func7 rfl rfl (Nat.le_of_ble_eq_true rfl) ?_
  refine AWp.seq ?_
  refine AWp.region ?_
  refine AList.c 2 rfl rfl rfl (OpJ.boxImm rfl rfl rfl) ?_
  refine AList.c 4 rfl rfl rfl (OpJ.assign rfl rfl) ?_
  refine AList.nil ?_
  refine AWp.seq ?_
  refine AWp.seq ?_
  refine AWp.region ?_
  refine AList.c 15 rfl rfl rfl (OpJ.load (v := .p (pntV p)) rfl rfl ty24 rfl) ?_
  refine AList.c 16 rfl rfl rfl (OpJ.callP (large_ok p 8 hbb) rfl rfl rfl rfl rf9) ?_
  refine AList.c 17 rfl rfl rfl (OpJ.move rfl rfl) ?_
  refine AList.g 18 17 rfl rfl rfl rfl rfl rfl rfl [(1, _)] (fun h => And.intro (.inl rfl) (trivial)) (fun h => (OpJ.move rfl rfl)) ?_
  refine AList.g 19 17 rfl rfl rfl rfl rfl rfl rfl [(18, _)] (fun h => And.intro (.inr ⟨_, rfl, h⟩) (trivial)) (fun h => (OpJ.lenSlice rfl rfl sl42 rfl)) ?_
  refine AList.g 20 17 rfl rfl rfl rfl rfl rfl rfl [(19, _)] (fun h => And.intro (.inr ⟨_, rfl, h⟩) (trivial)) (fun h => (OpJ.eql rfl rfl rfl)) ?_
  refine AList.c 21 rfl rfl rfl (OpJ.or_ rfl rfl rfl ?_) ?_
  · first | (intro h; rw [h]; rfl) | (intro h; simp_all)
  refine AList.nil ?_
  refine AWp.cond _ rfl (fun hc0 => ?_) (fun hc0 => ?_)
  · skip
    refine AWp.seq ?_
    refine AWp.region ?_
    refine AList.c 22 rfl rfl rfl (OpJ.callP (awake_ok) rfl rfl rfl rfl rf10) ?_
    refine AList.c 4 rfl rfl rfl (OpJ.assign rfl rfl) ?_
    refine AList.nil ?_
    refine AWp.ret ?_
    exact Fin.oneE rfl rfl rfl
  · skip
    have hc : (lrgB p 8 || decide ((by_.length : Int) = 0)) = false := hc0
    rw [Bool.or_eq_false_iff] at hc
    have hby0 : 0 < by_.length := by have h := of_decide_eq_false hc.2; omega
    obtain ⟨hb, hbd, _⟩ := lrg_no hc.1
    have hp := pnt_ok hT
    have hol := ordN_all hp by_
    have hc9 := hp.all
    have hcp := coats_pos hp
    have hml := mkD_len p b b.length
    refine AWp.skip ?_
    refine AWp.seq ?_
    refine AWp.region ?_
    refine AList.c 24 rfl rfl rfl (OpJ.load (v := .p (pntV p)) rfl rfl ty24 rfl) ?_
    refine AList.c 25 rfl rfl rfl (OpJ.callP (best_S hb hbd hB) rfl rfl rfl rfl rf18) ?_
    refine AList.c 23 rfl rfl rfl (OpJ.move rfl rfl) ?_
    refine AList.c 26 rfl rfl rfl (OpJ.extract rfl rfl rfl) ?_
    refine AList.c 27 rfl rfl rfl (OpJ.extract rfl rfl rfl) ?_
    refine AList.c 28 rfl rfl rfl (OpJ.extract rfl rfl rfl) ?_
    refine AList.c 5 rfl rfl rfl (OpJ.assign rfl rfl) ?_
    refine AList.c 6 rfl rfl rfl (OpJ.assign rfl rfl) ?_
    refine AList.c 7 rfl rfl rfl (OpJ.assign rfl rfl) ?_
    refine AList.nil ?_
    refine AWp.seq ?_
    refine AWp.seq ?_
    refine AWp.region ?_
    refine AList.c 29 rfl rfl rfl (OpJ.load (v := .p (pntV p)) rfl rfl ty24 rfl) ?_
    refine AList.c 30 rfl rfl rfl (OpJ.callP (rPaint_ok p hb hbd) rfl rfl rfl rfl rf20) ?_
    refine AList.c 31 rfl rfl rfl (OpJ.not_ rfl rfl) ?_
    refine AList.nil ?_
    refine AWp.cond _ rfl (fun hc1 => ?_) (fun hc1 => ?_)
    · skip
      exfalso
      rw [hT] at hc1
      cases hc1
    · skip
      refine AWp.skip ?_
      refine AWp.seq ?_
      refine AWp.region ?_
      refine AList.c 46 rfl rfl rfl (OpJ.load (v := .p (pntV p)) rfl rfl ty24 rfl) ?_
      refine AList.c 47 rfl rfl rfl (OpJ.move rfl rfl) ?_
      refine AList.c 48 rfl rfl rfl (OpJ.callP (order_ok p hp by_ hby0 hby h255) rfl rfl rfl rfl rf21) ?_
      refine AList.c 8 rfl rfl rfl (OpJ.assign rfl rfl) ?_
      refine AList.nil ?_
      refine AWp.seq ?_
      refine AWp.region ?_
      refine AList.c 50 rfl rfl rfl (OpJ.load (v := .p (pntV p)) rfl rfl ty24 rfl) ?_
      refine AList.c 51 rfl rfl rfl (OpJ.move rfl rfl) ?_
      refine AList.c 52 rfl rfl rfl (OpJ.callP (lDips_P p _ hb hbd hO (by omega)) rfl rfl rfl rfl rf22) ?_
      refine AList.c 49 rfl rfl rfl (OpJ.move rfl rfl) ?_
      refine AList.c 53 rfl rfl rfl (OpJ.extract rfl rfl rfl) ?_
      refine AList.c 54 rfl rfl rfl (OpJ.extract rfl rfl rfl) ?_
      refine AList.c 9 rfl rfl rfl (OpJ.assign rfl rfl) ?_
      refine AList.c 10 rfl rfl rfl (OpJ.assign rfl rfl) ?_
      refine AList.nil ?_
      refine AWp.seq ?_
      refine AWp.seq ?_
      refine AWp.region ?_
      refine AList.c 55 rfl rfl rfl (OpJ.move rfl rfl) ?_
      refine AList.c 56 rfl rfl rfl (OpJ.neq rfl rfl rfl) ?_
      refine AList.nil ?_
      refine AWp.cond _ rfl (fun hc2 => ?_) (fun hc2 => ?_)
      · skip
        cases hc2
      · skip
        refine AWp.skip ?_
        refine AWp.seq ?_
        refine AWp.region ?_
        refine AList.c 76 rfl rfl rfl (OpJ.load (v := .p (pntV p)) rfl rfl ty24 rfl) ?_
        refine AList.c 77 rfl rfl rfl (OpJ.move rfl rfl) ?_
        refine AList.c 78 rfl rfl rfl (OpJ.callP (lDips_P p b hb hbd h0 (by omega)) rfl rfl rfl rfl rf22) ?_
        refine AList.c 75 rfl rfl rfl (OpJ.move rfl rfl) ?_
        refine AList.c 79 rfl rfl rfl (OpJ.extract rfl rfl rfl) ?_
        refine AList.c 80 rfl rfl rfl (OpJ.extract rfl rfl rfl) ?_
        refine AList.c 11 rfl rfl rfl (OpJ.assign rfl rfl) ?_
        refine AList.c 12 rfl rfl rfl (OpJ.assign rfl rfl) ?_
        refine AList.nil ?_
        refine AWp.seq ?_
        refine AWp.seq ?_
        refine AWp.region ?_
        refine AList.c 81 rfl rfl rfl (OpJ.move rfl rfl) ?_
        refine AList.c 82 rfl rfl rfl (OpJ.not_ rfl rfl) ?_
        refine AList.c 83 rfl rfl rfl (OpJ.move rfl rfl) ?_
        refine AList.g 84 83 rfl rfl rfl rfl rfl rfl rfl [(2, _)] (fun h => And.intro (.inl rfl) (trivial)) (fun h => (OpJ.load (v := .p (pntV p)) rfl rfl ty24 rfl)) ?_
        refine AList.g 85 83 rfl rfl rfl rfl rfl rfl rfl [(11, _)] (fun h => And.intro (.inl rfl) (trivial)) (fun h => (OpJ.move rfl rfl)) ?_
        refine AList.g 86 83 rfl rfl rfl rfl rfl rfl rfl [(84, _), (85, _)] (fun h => And.intro (.inr ⟨_, rfl, h⟩) (And.intro (.inr ⟨_, rfl, h⟩) (trivial))) (fun h => (OpJ.callP (done_M (o := b) (by omega) h0) rfl rfl rfl rfl rf24)) ?_
        refine AList.g 87 83 rfl rfl rfl rfl rfl rfl rfl [(6, _)] (fun h => And.intro (.inl rfl) (trivial)) (fun h => (OpJ.move rfl rfl)) ?_
        refine AList.g 88 83 rfl rfl rfl rfl rfl rfl rfl [(86, _), (87, _)] (fun h => And.intro (.inr ⟨_, rfl, h⟩) (And.intro (.inr ⟨_, rfl, h⟩) (trivial))) (fun h => (OpJ.neq rfl rfl rfl)) ?_
        refine AList.c 89 rfl rfl rfl (OpJ.or_ rfl rfl rfl ?_) ?_
        · first | (intro h; rw [h]; rfl) | (intro h; simp_all)
        refine AList.c 90 rfl rfl rfl (OpJ.move rfl rfl) ?_
        refine AList.g 91 90 rfl rfl rfl rfl rfl rfl rfl [(11, _)] (fun h => And.intro (.inl rfl) (trivial)) (fun h => (OpJ.move rfl rfl)) ?_
        refine AList.g 92 90 rfl rfl rfl rfl rfl rfl rfl [(91, _)] (fun h => And.intro (.inr ⟨_, rfl, h⟩) (trivial)) (fun h => (OpJ.lenSlice rfl rfl sl25 rfl)) ?_
        refine AList.g 93 90 rfl rfl rfl rfl rfl rfl rfl [(8, _)] (fun h => And.intro (.inl rfl) (trivial)) (fun h => (OpJ.move rfl rfl)) ?_
        refine AList.g 94 90 rfl rfl rfl rfl rfl rfl rfl [(93, _)] (fun h => And.intro (.inr ⟨_, rfl, h⟩) (trivial)) (fun h => (OpJ.lenSlice rfl rfl sl26 rfl)) ?_
        refine AList.g 95 90 rfl rfl rfl rfl rfl rfl rfl [(92, _), (94, _)] (fun h => And.intro (.inr ⟨_, rfl, h⟩) (And.intro (.inr ⟨_, rfl, h⟩) (trivial))) (fun h => (OpJ.neq rfl rfl rfl)) ?_
        refine AList.c 96 rfl rfl rfl (OpJ.or_ rfl rfl rfl ?_) ?_
        · first | (intro h; rw [h]; rfl) | (intro h; simp_all)
        refine AList.nil ?_
        refine AWp.cond _ rfl (fun hc3 => ?_) (fun hc3 => ?_)
        · skip
          exfalso
          simp [mkD_len, hbl, hol] at hc3
        · skip
          refine AWp.skip ?_
          refine AWp.seq ?_
          refine AWp.seq ?_
          refine AWp.region ?_
          refine AList.c 97 rfl rfl rfl (OpJ.move rfl rfl) ?_
          refine AList.c 98 rfl rfl rfl (OpJ.not_ rfl rfl) ?_
          refine AList.nil ?_
          refine AWp.cond _ rfl (fun hc4 => ?_) (fun hc4 => ?_)
          · skip
            cases hc4
          · skip
            refine AWp.skip ?_
            refine AWp.seq ?_
            refine AWp.region ?_
            refine AList.c 100 rfl rfl rfl (OpJ.load (v := .p (pntV p)) rfl rfl ty24 rfl) ?_
            refine AList.c 101 rfl rfl rfl (OpJ.move rfl rfl) ?_
            refine AList.c 102 rfl rfl rfl (OpJ.callP (done_M (o := (ordN p by_ 9)) (by omega) hO) rfl rfl rfl rfl rf24) ?_
            refine AList.c 13 rfl rfl rfl (OpJ.assign rfl rfl) ?_
            refine AList.nil ?_
            refine AWp.seq ?_
            refine AWp.seq ?_
            refine AWp.region ?_
            refine AList.c 103 rfl rfl rfl (OpJ.move rfl rfl) ?_
            refine AList.c 104 rfl rfl rfl (OpJ.move rfl rfl) ?_
            refine AList.c 105 rfl rfl rfl (OpJ.neq rfl rfl rfl) ?_
            refine AList.nil ?_
            refine AWp.cond _ rfl (fun hc5 => ?_) (fun hc5 => ?_)
            · skip
              have hgt : dnN p (ordN p by_ 9) > dnN p b := by
                have h : ¬ dnN p (ordN p by_ 9) = dnN p b := by simpa using hc5
                omega
              refine AWp.seq ?_
              refine AWp.region ?_
              refine AList.c 106 rfl rfl rfl (OpJ.move rfl rfl) ?_
              refine AList.c 107 rfl rfl rfl (OpJ.move rfl rfl) ?_
              refine AList.c 108 rfl rfl rfl (OpJ.gtr rfl rfl rfl) ?_
              refine AList.c 109 rfl rfl rfl (OpJ.move rfl rfl) ?_
              refine AList.g 110 109 rfl rfl rfl rfl rfl rfl rfl [] (fun h => trivial) (fun h => (OpJ.callP (awake_ok) rfl rfl rfl rfl rf10)) ?_
              refine AList.c 111 rfl rfl rfl (OpJ.and_ rfl rfl rfl ?_) ?_
              · first | (intro h; rw [h]; rfl) | (intro h; simp_all)
              refine AList.c 4 rfl rfl rfl (OpJ.assign rfl rfl) ?_
              refine AList.nil ?_
              refine AWp.ret ?_
              refine Fin.oneE rfl rfl ?_
              rw [decide_eq_true hgt]; rfl
            · skip
              have heq : dnN p (ordN p by_ 9) = dnN p b := by simpa using hc5
              have hlex := hlx heq
              refine AWp.skip ?_
              refine AWp.seq ?_
              refine AWp.seq ?_
              refine AWp.region ?_
              refine AList.c 14 rfl rfl rfl (OpJ.assign rfl rfl) ?_
              refine AList.nil ?_
              refine AWp.block ?_
              refine AWp.loopKL [5, 8, 139] (fun g => [(14, .p (.int .i64 ((g : Nat) : Int)))]) (fun g => g ≤ b.length ∧ ∀ j, j < g → nt b j = nt (ordN p by_ 9) j) (fun g => b.length - g) 0 ⟨Nat.zero_le _, fun j hj => absurd hj (by omega)⟩ (Sub.cons rfl (Sub.nil)) (fun i hg => ?_)
              obtain ⟨hg1, hg2⟩ := hg
              refine AWp.seq ?_
              refine AWp.seq ?_
              refine AWp.region ?_
              refine AList.c 112 rfl rfl rfl (OpJ.move rfl rfl) ?_
              refine AList.c 113 rfl rfl rfl (OpJ.move rfl rfl) ?_
              refine AList.c 114 rfl rfl rfl (OpJ.lenSlice rfl rfl sl26 rfl) ?_
              refine AList.c 115 rfl rfl rfl (OpJ.lss rfl rfl rfl) ?_
              refine AList.nil ?_
              refine AWp.cond _ rfl (fun hc6 => ?_) (fun hc6 => ?_)
              · skip
                have hk0 : i < b.length := by have h := of_decide_eq_true hc6; omega
                refine AWp.skip ?_
                refine AWp.seq ?_
                refine AWp.block ?_
                refine AWp.seq ?_
                refine AWp.regionDraw 9 mixed (by kernel_rfl) (by decide) ?_
                refine AQuiet.cons 118 rfl rfl rfl (OpJ.move rfl rfl) ?_
                refine AQuiet.cons 119 rfl rfl rfl (OpJ.move rfl rfl) ?_
                refine AQuiet.cons 120 rfl rfl rfl (OpJ.indexG (g := nt b) nt_get rfl rfl rfl sl26 el26 rfl (fun _ => rfl) (by decide) hk0) ?_
                refine AQuiet.cons 121 rfl rfl rfl (OpJ.load (v := .p (.int .i64 (nt b i))) rfl rfl ty3 rfl) ?_
                refine AQuiet.cons 122 rfl rfl rfl (OpJ.move rfl rfl) ?_
                refine AQuiet.cons 123 rfl rfl rfl (OpJ.move rfl rfl) ?_
                refine AQuiet.cons 124 rfl rfl rfl (OpJ.indexG (g := nt (ordN p by_ 9)) nt_get rfl rfl rfl sl26 el26 rfl (fun _ => rfl) (by decide) (by omega)) ?_
                refine AQuiet.cons 125 rfl rfl rfl (OpJ.load (v := .p (.int .i64 (nt (ordN p by_ 9) i))) rfl rfl ty3 rfl) ?_
                refine AQuiet.cons 126 rfl rfl rfl (OpJ.neq rfl rfl rfl) ?_
                refine AQuiet.nil ?_
                refine AList.nil ?_
                refine AWp.cond _ rfl (fun hc7 => ?_) (fun hc7 => ?_)
                · skip
                  have hne : ¬ nt b i = nt (ordN p by_ 9) i := by simpa using hc7
                  have hlt : nt b i < nt (ordN p by_ 9) i := by have h := hlex i hg2; omega
                  refine AWp.seq ?_
                  refine AWp.regionDraw 13 mixed (by kernel_rfl) (by decide) ?_
                  refine AQuiet.cons 127 rfl rfl rfl (OpJ.move rfl rfl) ?_
                  refine AQuiet.cons 128 rfl rfl rfl (OpJ.move rfl rfl) ?_
                  refine AQuiet.cons 129 rfl rfl rfl (OpJ.indexG (g := nt b) nt_get rfl rfl rfl sl26 el26 rfl (fun _ => rfl) (by decide) hk0) ?_
                  refine AQuiet.cons 130 rfl rfl rfl (OpJ.load (v := .p (.int .i64 (nt b i))) rfl rfl ty3 rfl) ?_
                  refine AQuiet.cons 131 rfl rfl rfl (OpJ.move rfl rfl) ?_
                  refine AQuiet.cons 132 rfl rfl rfl (OpJ.move rfl rfl) ?_
                  refine AQuiet.cons 133 rfl rfl rfl (OpJ.indexG (g := nt (ordN p by_ 9)) nt_get rfl rfl rfl sl26 el26 rfl (fun _ => rfl) (by decide) (by omega)) ?_
                  refine AQuiet.cons 134 rfl rfl rfl (OpJ.load (v := .p (.int .i64 (nt (ordN p by_ 9) i))) rfl rfl ty3 rfl) ?_
                  refine AQuiet.cons 135 rfl rfl rfl (OpJ.lss rfl rfl rfl) ?_
                  refine AQuiet.cons 136 rfl rfl rfl (OpJ.move rfl rfl) ?_
                  refine AQuiet.guard 137 136 rfl rfl rfl rfl rfl rfl rfl [] (fun h => trivial) (fun h => (OpJ.callP (awake_ok) rfl rfl rfl rfl rf10)) ?_
                  refine AQuiet.cons 138 rfl rfl rfl (OpJ.and_ rfl rfl rfl ?_) ?_
                  · first | (intro h; rw [h]; rfl) | (intro h; simp_all)
                  refine AQuiet.cons 4 rfl rfl rfl (OpJ.assign rfl rfl) ?_
                  refine AQuiet.nil ?_
                  refine AList.nil ?_
                  refine AWp.ret ?_
                  refine Fin.oneE rfl rfl ?_
                  rw [decide_eq_true hlt]; rfl
                · skip
                  have hst : nt b i = nt (ordN p by_ 9) i := by simpa using hc7
                  refine AWp.skip ?_
                  refine AWp.region ?_
                  refine AList.c 116 rfl rfl rfl (OpJ.move rfl rfl) ?_
                  refine AList.c 117 rfl rfl rfl (OpJ.add rfl rfl rfl (i64ok ?_)) ?_
                  · omega
                  refine AList.c 14 rfl rfl rfl (OpJ.assign rfl rfl) ?_
                  refine AList.nil ?_
                  refine ⟨i + 1, ?_, ?_, ?_⟩
                  · refine ⟨by omega, fun j hj => ?_⟩
                    rcases Nat.lt_succ_iff_lt_or_eq.1 hj with h1 | rfl
                    · exact hg2 j h1
                    · exact hst
                  · omega
                  exact To.done [] rfl (by repeat (first | exact Sub.nil | refine Sub.cons rfl ?_)) rfl
              · skip
                obtain rfl : i = b.length := by have h := of_decide_eq_false hc6; omega
                refine AWp.exit ?_
                refine AWp.seq ?_
                refine AWp.region ?_
                refine AList.c 139 rfl rfl rfl (OpJ.callP (awake_ok) rfl rfl rfl rfl rf10) ?_
                refine AList.c 4 rfl rfl rfl (OpJ.assign rfl rfl) ?_
                refine AList.nil ?_
                refine AWp.ret ?_
                exact Fin.oneE rfl rfl rfl
theorem lawBest_walk (p : Pnt) (by_ : List Nat) (hby : by_.length ≤ bigN) (h255 : ∀ x ∈ by_, x ≤ 255) (hbb : p.bs.length ≤ bigN) : Pure Try.prog 7 [pntV p, bysV by_] (.bool true) := by
  cases hT : pntB p with
  | false => exact lawBest_F p by_ hby h255 hbb hT
  | true =>
    have ho := other_in (pnt_ok hT) by_
    rcases best_cases hT with ⟨h1, h2⟩ | ⟨b, h1, h2, h3, h4⟩
    · exact lawBest_N p by_ hby h255 hbb hT h1 (h2 _ ho)
    · by_cases h5 : (timesR p (ordN p by_ 9)).2.2 = 0
      · obtain ⟨h6, h7⟩ := h4 _ ho h5
        exact lawBest_S p by_ hby h255 hbb hT b h1 h3 h2 h5 h6 h7
      · exact lawBest_E p by_ hby h255 hbb hT b h1 h3 h2 h5
theorem coatBest_law {x0 x1 : List PV} (h0 : TyL [.leaf (.int .i64), .leaf (.int .i64), .sl [.sl [.leaf (.int .i64), .leaf (.int .i64)], .leaf (.int .i64)]] x0) (h1 : TyL [.sl [.leaf (.int .u8)]] x1) : Pure Try.prog 7 [argP true x0, argP false x1] (.bool true) := by
  obtain ⟨p, rfl, hp⟩ := pnt_of h0
  obtain ⟨l, rfl, hl, hl2⟩ := bys_of h1
  exact lawBest_walk p l hl hl2 hp
end Go.Proofs.Ytibgdkaipleajaa
end
