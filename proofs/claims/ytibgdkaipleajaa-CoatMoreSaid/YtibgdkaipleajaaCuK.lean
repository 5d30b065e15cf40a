/-
  CoatTrue.
-/
import Derived.Test.YtibgdkaipleajaaCuF5
import Derived.Test.YtibgdkaipleajaaCuJ
import Derived.Test.YtibgdkaipleajaaCuP5
section
set_option linter.unusedVariables false
set_option maxRecDepth 100000
set_option maxHeartbeats 4000000
set_option linter.unusedSimpArgs false
namespace Go.Proofs.Ytibgdkaipleajaa
open Go.AF
def u2 (n : Nat) : List PV := [.int .u16 (n : Int)]
def bysW (l : List Nat) : PV := .is (l.flatMap u2) l.length
theorem rPaint_h {p : Pnt} (h : lrgB p 9 = false) : Pure Try.prog 20 [pntV p] (.bool (pntB p)) := by
  obtain ⟨hb, hbd, _⟩ := lrg_no h
  exact rPaint_ok p hb hbd
theorem times_11C {p : Pnt} {o : List Int} (hb : p.bs.length ≤ 8) (hbd : ∀ b ∈ p.bs, b.dry.length ≤ 14) (ho : o.length ≤ 1000) {i : Nat} (h : timesR p o = ([], (i : Int), 11)) : Pure Try.prog 13 [pntV p, intsV o] (.tuple [.nilSlice, .int .i64 (i : Int), .int .i64 11]) := by
  have h2 := times_ok p o hb hbd ho
  rw [h] at h2
  exact h2
theorem wet_0C {p : Pnt} {o : List Int} (hb : p.bs.length ≤ 8) (hbd : ∀ b ∈ p.bs, b.dry.length ≤ 14) (ho : o.length ≤ 1000) (h : (timesR p o).2.2 = 0) {hour : Int} (hh : inB hour 0 1048576 = true) : Pure Try.prog 15 [pntV p, intsV o, .int .i64 hour] (.tuple [.agg [.int .i64 (cntB (wl (wsN p o hour o.length) hour) 4), .int .i64 (cntB (wh (wsN p o hour o.length) hour) 4)], .int .i64 0]) := by
  have h2 := wet_ok p o hour hb hbd ho
  have e : wetR p o hour = (⟨cntB (wl (wsN p o hour o.length) hour) 4, cntB (wh (wsN p o hour o.length) hour) 4⟩, 0) := (if_neg (not_not_intro h)).trans (if_neg (by rw [hh]; decide))
  rw [e] at h2
  exact h2
def hgT (p : Pnt) (o : List Int) (k : Nat) : Int := cntB (hgD p (mkD p o (k + 1)) (-1) (hrI p o k + p.dip)) p.bs.length
theorem hang_T {p : Pnt} (hp : Ok p) {o : List Int} (hE : NoErr p o o.length) (ho : o.length ≤ 1000) {k : Nat} (hk : k < o.length) : Pure Try.prog 23 [pntV p, .is ((mkD p o o.length).take (k + 1) |>.flatMap Dp.cells) (k + 1 - 0), .int .i64 (-1), .int .i64 (hrI p o k + p.dip)] (.int .i64 (hgT p o k)) := by
  have hE2 : NoErr p o (k + 1) := fun j hj => hE j (by omega)
  have h := rHanging_ok p hp (mkD p o (k + 1)) (good_mk hp (by omega) hE2) (by rw [mkD_len]; omega) (-1) (hrI p o k + p.dip)
  rw [mk_take p o (by omega)]
  unfold dpsV at h
  rw [mkD_len] at h
  exact h
theorem lawTrue_E (p : Pnt) (by_ : List Nat) (hby : by_.length ≤ bigN) (h255 : ∀ x ∈ by_, x ≤ 255) (dry : List Nat) (hdl : dry.length ≤ bigN) (h16 : ∀ x ∈ dry, x ≤ 65535) (hour : Nat) (hh : hour ≤ 65535) (hbb : p.bs.length ≤ bigN) (hE : ¬ (timesR p (ordN p by_ 9)).2.2 = 0) : Pure Try.prog 5 [pntV p, bysV by_, bysW dry, .int .u16 (hour : Int)] (.bool true) := by
  refine Pure.start (N := 254) Try.func5 rfl rfl (Nat.le_of_ble_eq_true rfl) ?_
  refine AWp.seq ?_
  refine AWp.region ?_
  refine AList.c 4 rfl rfl rfl (OpJ.boxImm rfl rfl rfl) ?_
  refine AList.c 8 rfl rfl rfl (OpJ.assign rfl rfl) ?_
  refine AList.nil ?_
  refine AWp.seq ?_
  refine AWp.seq ?_
  refine AWp.region ?_
  refine AList.c 27 rfl rfl rfl (OpJ.load (v := .p (pntV p)) rfl rfl ty24 rfl) ?_
  refine AList.c 28 rfl rfl rfl (OpJ.callP (large_ok p 9 hbb) rfl rfl rfl rfl rf9) ?_
  refine AList.c 29 rfl rfl rfl (OpJ.move rfl rfl) ?_
  refine AList.g 30 29 rfl rfl rfl rfl rfl rfl rfl [(1, _)] (fun h => And.intro (.inl rfl) (trivial)) (fun h => (OpJ.move rfl rfl)) ?_
  refine AList.g 31 29 rfl rfl rfl rfl rfl rfl rfl [(30, _)] (fun h => And.intro (.inr ⟨_, rfl, h⟩) (trivial)) (fun h => (OpJ.lenSlice rfl rfl sl42 rfl)) ?_
  refine AList.g 32 29 rfl rfl rfl rfl rfl rfl rfl [(31, _)] (fun h => And.intro (.inr ⟨_, rfl, h⟩) (trivial)) (fun h => (OpJ.eql rfl rfl rfl)) ?_
  refine AList.c 33 rfl rfl rfl (OpJ.or_ rfl rfl rfl ?_) ?_
  · first | (intro h; rw [h]; rfl) | (intro h; simp_all)
  refine AList.c 34 rfl rfl rfl (OpJ.move rfl rfl) ?_
  refine AList.g 35 34 rfl rfl rfl rfl rfl rfl rfl [(2, _)] (fun h => And.intro (.inl rfl) (trivial)) (fun h => (OpJ.move rfl rfl)) ?_
  refine AList.g 36 34 rfl rfl rfl rfl rfl rfl rfl [(35, _)] (fun h => And.intro (.inr ⟨_, rfl, h⟩) (trivial)) (fun h => (OpJ.lenSlice rfl rfl sl43 rfl)) ?_
  refine AList.g 37 34 rfl rfl rfl rfl rfl rfl rfl [(36, _)] (fun h => And.intro (.inr ⟨_, rfl, h⟩) (trivial)) (fun h => (OpJ.eql rfl rfl rfl)) ?_
  refine AList.c 38 rfl rfl rfl (OpJ.or_ rfl rfl rfl ?_) ?_
  · first | (intro h; rw [h]; rfl) | (intro h; simp_all)
  refine AList.c 39 rfl rfl rfl (OpJ.move rfl rfl) ?_
  refine AList.g 40 39 rfl rfl rfl rfl rfl rfl rfl [(4, _)] (fun h => And.intro (.inl rfl) (trivial)) (fun h => (OpJ.load (v := .p (pntV p)) rfl rfl ty24 rfl)) ?_
  refine AList.g 41 39 rfl rfl rfl rfl rfl rfl rfl [(40, _)] (fun h => And.intro (.inr ⟨_, rfl, h⟩) (trivial)) (fun h => (OpJ.callP (rPaint_h (by cases e : lrgB p 9 with | false => rfl | true => exact absurd h (by simp [e]))) rfl rfl rfl rfl rf20)) ?_
  refine AList.g 42 39 rfl rfl rfl rfl rfl rfl rfl [(41, _)] (fun h => And.intro (.inr ⟨_, rfl, h⟩) (trivial)) (fun h => (OpJ.not_ rfl rfl)) ?_
  refine AList.c 43 rfl rfl rfl (OpJ.or_ rfl rfl rfl ?_) ?_
  · first | (intro h; rw [h]; rfl) | (intro h; simp_all)
  refine AList.nil ?_
  refine AWp.cond _ rfl (fun hc0 => ?_) (fun hc0 => ?_)
  · skip
    refine AWp.seq ?_
    refine AWp.region ?_
    refine AList.c 44 rfl rfl rfl (OpJ.callP (awake_ok) rfl rfl rfl rfl rf10) ?_
    refine AList.c 8 rfl rfl rfl (OpJ.assign rfl rfl) ?_
    refine AList.nil ?_
    refine AWp.ret ?_
    exact Fin.oneE rfl rfl rfl
  · skip
    have hc : (((lrgB p 9 || decide ((by_.length : Int) = 0)) || decide ((dry.length : Int) = 0)) || !pntB p) = false := hc0
    rw [Bool.or_eq_false_iff, Bool.or_eq_false_iff, Bool.or_eq_false_iff] at hc
    obtain ⟨⟨⟨hlg, hb0⟩, hdr0⟩, hT0⟩ := hc
    have hT : pntB p = true := by simpa using hT0
    have hby0 : 0 < by_.length := by have h := of_decide_eq_false hb0; omega
    have hdr : 0 < dry.length := by have h := of_decide_eq_false hdr0; omega
    obtain ⟨hb, hbd, _⟩ := lrg_no hlg
    have hp := pnt_ok hT
    have hn4 := hp.n
    have hd24 := hp.dip
    have hol := ordN_all hp by_
    have hc9 := hp.all
    have hcp := coats_pos hp
    have hV := ordN_V (show 0 < p.bs.length by omega) by_ 9
    obtain ⟨o, ho⟩ : ∃ o, o = (ordN p by_ 9) := ⟨_, rfl⟩
    have hoc := order_ok p hp by_ hby0 hby h255
    rw [← ho] at hol hV hoc hE
    obtain ⟨i, hi0, he11⟩ := times_11 hT hV (by omega) hE
    refine AWp.skip ?_
    refine AWp.seq ?_
    refine AWp.region ?_
    refine AList.c 45 rfl rfl rfl (OpJ.load (v := .p (pntV p)) rfl rfl ty24 rfl) ?_
    refine AList.c 46 rfl rfl rfl (OpJ.move rfl rfl) ?_
    refine AList.c 47 rfl rfl rfl (OpJ.callP (hoc) rfl rfl rfl rfl rf21) ?_
    refine AList.c 9 rfl rfl rfl (OpJ.assign rfl rfl) ?_
    refine AList.nil ?_
    refine AWp.seq ?_
    refine AWp.region ?_
    refine AList.c 49 rfl rfl rfl (OpJ.load (v := .p (pntV p)) rfl rfl ty24 rfl) ?_
    refine AList.c 50 rfl rfl rfl (OpJ.move rfl rfl) ?_
    refine AList.c 51 rfl rfl rfl (OpJ.callP (lDips_N p o hb hbd hE (by omega)) rfl rfl rfl rfl rf22) ?_
    refine AList.c 48 rfl rfl rfl (OpJ.move rfl rfl) ?_
    refine AList.c 52 rfl rfl rfl (OpJ.extract rfl rfl rfl) ?_
    refine AList.c 53 rfl rfl rfl (OpJ.extract rfl rfl rfl) ?_
    refine AList.c 10 rfl rfl rfl (OpJ.assign rfl rfl) ?_
    refine AList.c 11 rfl rfl rfl (OpJ.assign rfl rfl) ?_
    refine AList.nil ?_
    refine AWp.seq ?_
    refine AWp.seq ?_
    refine AWp.region ?_
    refine AList.c 54 rfl rfl rfl (OpJ.move rfl rfl) ?_
    refine AList.c 55 rfl rfl rfl (OpJ.not_ rfl rfl) ?_
    refine AList.nil ?_
    refine AWp.cond _ rfl (fun hc1 => ?_) (fun hc1 => ?_)
    · skip
      refine AWp.seq ?_
      refine AWp.region ?_
      refine AList.c 57 rfl rfl rfl (OpJ.load (v := .p (pntV p)) rfl rfl ty24 rfl) ?_
      refine AList.c 58 rfl rfl rfl (OpJ.move rfl rfl) ?_
      refine AList.c 59 rfl rfl rfl (OpJ.callP (times_11C hb hbd (by omega) he11) rfl rfl rfl rfl rf13) ?_
      refine AList.c 56 rfl rfl rfl (OpJ.move rfl rfl) ?_
      refine AList.c 60 rfl rfl rfl (OpJ.extract rfl rfl rfl) ?_
      refine AList.c 61 rfl rfl rfl (OpJ.extract rfl rfl rfl) ?_
      refine AList.c 62 rfl rfl rfl (OpJ.extract rfl rfl rfl) ?_
      refine AList.c 12 rfl rfl rfl (OpJ.assign rfl rfl) ?_
      refine AList.c 13 rfl rfl rfl (OpJ.assign rfl rfl) ?_
      refine AList.c 14 rfl rfl rfl (OpJ.assign rfl rfl) ?_
      refine AList.nil ?_
      refine AWp.seq ?_
      refine AWp.region ?_
      refine AList.c 63 rfl rfl rfl (OpJ.move rfl rfl) ?_
      refine AList.c 64 rfl rfl rfl (OpJ.eql rfl rfl rfl) ?_
      refine AList.c 65 rfl rfl rfl (OpJ.move rfl rfl) ?_
      refine AList.g 66 65 rfl rfl rfl rfl rfl rfl rfl [(13, _)] (fun h => And.intro (.inl rfl) (trivial)) (fun h => (OpJ.move rfl rfl)) ?_
      refine AList.g 67 65 rfl rfl rfl rfl rfl rfl rfl [(9, _)] (fun h => And.intro (.inl rfl) (trivial)) (fun h => (OpJ.move rfl rfl)) ?_
      refine AList.g 68 65 rfl rfl rfl rfl rfl rfl rfl [(67, _)] (fun h => And.intro (.inr ⟨_, rfl, h⟩) (trivial)) (fun h => (OpJ.lenSlice rfl rfl sl26 rfl)) ?_
      refine AList.g 69 65 rfl rfl rfl rfl rfl rfl rfl [(66, _), (68, _)] (fun h => And.intro (.inr ⟨_, rfl, h⟩) (And.intro (.inr ⟨_, rfl, h⟩) (trivial))) (fun h => (OpJ.lss rfl rfl rfl)) ?_
      refine AList.c 70 rfl rfl rfl (OpJ.and_ rfl rfl rfl ?_) ?_
      · first | (intro h; rw [h]; rfl) | (intro h; simp_all)
      refine AList.c 71 rfl rfl rfl (OpJ.move rfl rfl) ?_
      refine AList.g 72 71 rfl rfl rfl rfl rfl rfl rfl [] (fun h => trivial) (fun h => (OpJ.callP (awake_ok) rfl rfl rfl rfl rf10)) ?_
      refine AList.c 73 rfl rfl rfl (OpJ.and_ rfl rfl rfl ?_) ?_
      · first | (intro h; rw [h]; rfl) | (intro h; simp_all)
      refine AList.c 8 rfl rfl rfl (OpJ.assign rfl rfl) ?_
      refine AList.nil ?_
      refine AWp.ret ?_
      refine Fin.oneE rfl rfl ?_
      rw [decide_eq_true (show (i : Int) < (o.length : Int) by omega)]; rfl
    · skip
      cases hc1
theorem lawTrue_P (p : Pnt) (by_ : List Nat) (hby : by_.length ≤ bigN) (h255 : ∀ x ∈ by_, x ≤ 255) (dry : List Nat) (hdl : dry.length ≤ bigN) (h16 : ∀ x ∈ dry, x ≤ 65535) (hour : Nat) (hh : hour ≤ 65535) (hbb : p.bs.length ≤ bigN) (h0 : (timesR p (ordN p by_ 9)).2.2 = 0) : Pure Try.prog 5 [pntV p, bysV by_, bysW dry, .int .u16 (hour : Int)] (.bool true) := by
  refine Pure.start (N := 254) Try.func5 rfl rfl (Nat.le_of_ble_eq_true rfl) ?_
  refine AWp.seq ?_
  refine AWp.region ?_
  refine AList.c 4 rfl rfl rfl (OpJ.boxImm rfl rfl rfl) ?_
  refine AList.c 8 rfl rfl rfl (OpJ.assign rfl rfl) ?_
  refine AList.nil ?_
  refine AWp.seq ?_
  refine AWp.seq ?_
  refine AWp.region ?_
  refine AList.c 27 rfl rfl rfl (OpJ.load (v := .p (pntV p)) rfl rfl ty24 rfl) ?_
  refine AList.c 28 rfl rfl rfl (OpJ.callP (large_ok p 9 hbb) rfl rfl rfl rfl rf9) ?_
  refine AList.c 29 rfl rfl rfl (OpJ.move rfl rfl) ?_
  refine AList.g 30 29 rfl rfl rfl rfl rfl rfl rfl [(1, _)] (fun h => And.intro (.inl rfl) (trivial)) (fun h => (OpJ.move rfl rfl)) ?_
  refine AList.g 31 29 rfl rfl rfl rfl rfl rfl rfl [(30, _)] (fun h => And.intro (.inr ⟨_, rfl, h⟩) (trivial)) (fun h => (OpJ.lenSlice rfl rfl sl42 rfl)) ?_
  refine AList.g 32 29 rfl rfl rfl rfl rfl rfl rfl [(31, _)] (fun h => And.intro (.inr ⟨_, rfl, h⟩) (trivial)) (fun h => (OpJ.eql rfl rfl rfl)) ?_
  refine AList.c 33 rfl rfl rfl (OpJ.or_ rfl rfl rfl ?_) ?_
  · first | (intro h; rw [h]; rfl) | (intro h; simp_all)
  refine AList.c 34 rfl rfl rfl (OpJ.move rfl rfl) ?_
  refine AList.g 35 34 rfl rfl rfl rfl rfl rfl rfl [(2, _)] (fun h => And.intro (.inl rfl) (trivial)) (fun h => (OpJ.move rfl rfl)) ?_
  refine AList.g 36 34 rfl rfl rfl rfl rfl rfl rfl [(35, _)] (fun h => And.intro (.inr ⟨_, rfl, h⟩) (trivial)) (fun h => (OpJ.lenSlice rfl rfl sl43 rfl)) ?_
  refine AList.g 37 34 rfl rfl rfl rfl rfl rfl rfl [(36, _)] (fun h => And.intro (.inr ⟨_, rfl, h⟩) (trivial)) (fun h => (OpJ.eql rfl rfl rfl)) ?_
  refine AList.c 38 rfl rfl rfl (OpJ.or_ rfl rfl rfl ?_) ?_
  · first | (intro h; rw [h]; rfl) | (intro h; simp_all)
  refine AList.c 39 rfl rfl rfl (OpJ.move rfl rfl) ?_
  refine AList.g 40 39 rfl rfl rfl rfl rfl rfl rfl [(4, _)] (fun h => And.intro (.inl rfl) (trivial)) (fun h => (OpJ.load (v := .p (pntV p)) rfl rfl ty24 rfl)) ?_
  refine AList.g 41 39 rfl rfl rfl rfl rfl rfl rfl [(40, _)] (fun h => And.intro (.inr ⟨_, rfl, h⟩) (trivial)) (fun h => (OpJ.callP (rPaint_h (by cases e : lrgB p 9 with | false => rfl | true => exact absurd h (by simp [e]))) rfl rfl rfl rfl rf20)) ?_
  refine AList.g 42 39 rfl rfl rfl rfl rfl rfl rfl [(41, _)] (fun h => And.intro (.inr ⟨_, rfl, h⟩) (trivial)) (fun h => (OpJ.not_ rfl rfl)) ?_
  refine AList.c 43 rfl rfl rfl (OpJ.or_ rfl rfl rfl ?_) ?_
  · first | (intro h; rw [h]; rfl) | (intro h; simp_all)
  refine AList.nil ?_
  refine AWp.cond _ rfl (fun hc0 => ?_) (fun hc0 => ?_)
  · skip
    refine AWp.seq ?_
    refine AWp.region ?_
    refine AList.c 44 rfl rfl rfl (OpJ.callP (awake_ok) rfl rfl rfl rfl rf10) ?_
    refine AList.c 8 rfl rfl rfl (OpJ.assign rfl rfl) ?_
    refine AList.nil ?_
    refine AWp.ret ?_
    exact Fin.oneE rfl rfl rfl
  · skip
    have hc : (((lrgB p 9 || decide ((by_.length : Int) = 0)) || decide ((dry.length : Int) = 0)) || !pntB p) = false := hc0
    rw [Bool.or_eq_false_iff, Bool.or_eq_false_iff, Bool.or_eq_false_iff] at hc
    obtain ⟨⟨⟨hlg, hb0⟩, hdr0⟩, hT0⟩ := hc
    have hT : pntB p = true := by simpa using hT0
    have hby0 : 0 < by_.length := by have h := of_decide_eq_false hb0; omega
    have hdr : 0 < dry.length := by have h := of_decide_eq_false hdr0; omega
    obtain ⟨hb, hbd, _⟩ := lrg_no hlg
    have hp := pnt_ok hT
    have hn4 := hp.n
    have hd24 := hp.dip
    have hol := ordN_all hp by_
    have hc9 := hp.all
    have hcp := coats_pos hp
    have hV := ordN_V (show 0 < p.bs.length by omega) by_ 9
    obtain ⟨o, ho⟩ : ∃ o, o = (ordN p by_ 9) := ⟨_, rfl⟩
    have hoc := order_ok p hp by_ hby0 hby h255
    rw [← ho] at hol hV hoc h0
    have hin : inB (hour : Int) 0 1048576 = true := by unfold inB; rw [decide_eq_true (by omega), decide_eq_true (by omega)]; rfl
    obtain ⟨_, hall, _, _⟩ := times_0 h0
    have htw := tr_wet hp dry (show (0 : Int) ≤ (hour : Int) by omega) hall
    have hml := mkD_len p o o.length
    refine AWp.skip ?_
    refine AWp.seq ?_
    refine AWp.region ?_
    refine AList.c 45 rfl rfl rfl (OpJ.load (v := .p (pntV p)) rfl rfl ty24 rfl) ?_
    refine AList.c 46 rfl rfl rfl (OpJ.move rfl rfl) ?_
    refine AList.c 47 rfl rfl rfl (OpJ.callP (hoc) rfl rfl rfl rfl rf21) ?_
    refine AList.c 9 rfl rfl rfl (OpJ.assign rfl rfl) ?_
    refine AList.nil ?_
    refine AWp.seq ?_
    refine AWp.region ?_
    refine AList.c 49 rfl rfl rfl (OpJ.load (v := .p (pntV p)) rfl rfl ty24 rfl) ?_
    refine AList.c 50 rfl rfl rfl (OpJ.move rfl rfl) ?_
    refine AList.c 51 rfl rfl rfl (OpJ.callP (lDips_P p o hb hbd h0 (by omega)) rfl rfl rfl rfl rf22) ?_
    refine AList.c 48 rfl rfl rfl (OpJ.move rfl rfl) ?_
    refine AList.c 52 rfl rfl rfl (OpJ.extract rfl rfl rfl) ?_
    refine AList.c 53 rfl rfl rfl (OpJ.extract rfl rfl rfl) ?_
    refine AList.c 10 rfl rfl rfl (OpJ.assign rfl rfl) ?_
    refine AList.c 11 rfl rfl rfl (OpJ.assign rfl rfl) ?_
    refine AList.nil ?_
    refine AWp.seq ?_
    refine AWp.seq ?_
    refine AWp.region ?_
    refine AList.c 54 rfl rfl rfl (OpJ.move rfl rfl) ?_
    refine AList.c 55 rfl rfl rfl (OpJ.not_ rfl rfl) ?_
    refine AList.nil ?_
    refine AWp.cond _ rfl (fun hc1 => ?_) (fun hc1 => ?_)
    · skip
      cases hc1
    · skip
      refine AWp.skip ?_
      refine AWp.seq ?_
      refine AWp.region ?_
      refine AList.c 75 rfl rfl rfl (OpJ.load (v := .p (pntV p)) rfl rfl ty24 rfl) ?_
      refine AList.c 76 rfl rfl rfl (OpJ.move rfl rfl) ?_
      refine AList.c 77 rfl rfl rfl (OpJ.move rfl rfl) ?_
      refine AList.c 78 rfl rfl rfl (OpJ.convInt rfl rfl (by rw [un44]; rfl) un3 (i64ok ?_)) ?_
      · omega
      refine AList.c 79 rfl rfl rfl (OpJ.callP (wet_0C hb hbd (by omega) h0 hin) rfl rfl rfl rfl rf15) ?_
      refine AList.c 74 rfl rfl rfl (OpJ.move rfl rfl) ?_
      refine AList.c 80 rfl rfl rfl (OpJ.extract rfl rfl rfl) ?_
      refine AList.c 81 rfl rfl rfl (OpJ.extract rfl rfl rfl) ?_
      refine AList.c 15 rfl rfl rfl (OpJ.allocOwn rfl zr35 rfl) ?_
      refine AList.c0 rfl rfl (OpJ.store (H' := [.cells [.p (.int .i64 (cntB (wl (wsN p o (hour : Int) o.length) (hour : Int)) 4)), .p (.int .i64 (cntB (wh (wsN p o (hour : Int) o.length) (hour : Int)) 4))] 35]) rfl rfl rfl rfl rfl ty35 rfl rfl) ?_
      refine AList.c 16 rfl rfl rfl (OpJ.assign rfl rfl) ?_
      refine AList.nil ?_
      refine AWp.seq ?_
      refine AWp.seq ?_
      refine AWp.region ?_
      refine AList.c 82 rfl rfl rfl (OpJ.move rfl rfl) ?_
      refine AList.c 83 rfl rfl rfl (OpJ.neq rfl rfl rfl) ?_
      refine AList.nil ?_
      refine AWp.cond _ rfl (fun hc2 => ?_) (fun hc2 => ?_)
      · skip
        cases hc2
      · skip
        refine AWp.skip ?_
        refine AWp.seq ?_
        refine AWp.region ?_
        refine AList.c 17 rfl rfl rfl (OpJ.assign rfl rfl) ?_
        refine AList.nil ?_
        refine AWp.seq ?_
        refine AWp.seq ?_
        refine AWp.region ?_
        refine AList.c 18 rfl rfl rfl (OpJ.assign rfl rfl) ?_
        refine AList.nil ?_
        refine AWp.block ?_
        refine AWp.loopHL [2, 3, 4, 10, 15, 26, 199, 200, 201, 202, 203, 204, 205, 206, 207, 208, 209, 210, 211, 212, 213, 214, 215, 216, 217, 218, 219, 220, 221, 222, 223, 224, 225, 226, 227, 228, 229, 230, 231, 232, 233, 234, 235, 236, 237, 238, 239, 240, 241, 242, 243, 244, 245, 246, 247, 248, 249, 250, 251, 252, 253] (fun g => [(18, .p (.int .i64 ((g : Nat) : Int))), (17, .p (.int .i64 (cntB (wetT p o dry (hour : Int)) g)))]) (fun g => [.cells [.p (.int .i64 (cntB (wl (wsN p o (hour : Int) o.length) (hour : Int)) 4)), .p (.int .i64 (cntB (wh (wsN p o (hour : Int) o.length) (hour : Int)) 4))] 35]) (fun g => g ≤ p.bs.length) (fun g => p.bs.length - g) 0 (Nat.zero_le _) (To.sub (Sub.chk (Sub.cons rfl (Sub.cons rfl (Sub.nil))))) (fun i hg => ?_)
        refine AWp.seq ?_
        refine AWp.seq ?_
        refine AWp.region ?_
        refine AList.c 84 rfl rfl rfl (OpJ.move rfl rfl) ?_
        refine AList.c 85 rfl rfl rfl (OpJ.fieldAddr rfl rfl fd24_2 rfl) ?_
        refine AList.c 86 rfl rfl rfl (OpJ.load (v := .p (cotsV p.bs)) rfl rfl ty22 rfl) ?_
        refine AList.c 87 rfl rfl rfl (OpJ.lenSlice rfl rfl sl22 rfl) ?_
        refine AList.c 88 rfl rfl rfl (OpJ.lss rfl rfl rfl) ?_
        refine AList.nil ?_
        refine AWp.cond _ rfl (fun hc3 => ?_) (fun hc3 => ?_)
        · skip
          have hi0 : i < p.bs.length := by have h := of_decide_eq_true hc3; omega
          have hlt := hp.late _ (cot_mem hi0)
          have hcw := cntB_le (wetT p o dry (hour : Int)) i
          refine AWp.skip ?_
          refine AWp.seq ?_
          refine AWp.block ?_
          refine AWp.seq ?_
          refine AWp.region ?_
          refine AList.c 19 rfl rfl rfl (OpJ.assign rfl rfl) ?_
          refine AList.c 20 rfl rfl rfl (OpJ.assign rfl rfl) ?_
          refine AList.c 21 rfl rfl rfl (OpJ.assign rfl rfl) ?_
          refine AList.c 22 rfl rfl rfl (OpJ.assign rfl rfl) ?_
          refine AList.nil ?_
          refine AWp.seq ?_
          refine AWp.seq ?_
          refine AWp.region ?_
          refine AList.c 23 rfl rfl rfl (OpJ.assign rfl rfl) ?_
          refine AList.nil ?_
          refine AWp.block ?_
          refine AWp.norm [0] [(2, _), (3, _), (4, _), (10, _), (15, _), (17, _), (18, _), (19, _), (20, _), (21, _), (22, _), (23, _)] [.cells [.p (.int .i64 (cntB (wl (wsN p o (hour : Int) o.length) (hour : Int)) 4)), .p (.int .i64 (cntB (wh (wsN p o (hour : Int) o.length) (hour : Int)) 4))] 35] rfl (by repeat (first | exact Sub.nil | refine Sub.cons rfl ?_)) rfl ?_
          refine AWp.loopHL [2, 3, 4, 10, 15, 17, 18, 26, 84, 85, 86, 87, 88, 89, 90, 193, 194, 195, 196, 197, 198, 199, 200, 201, 202, 203, 204, 205, 206, 207, 208, 209, 210, 211, 212, 213, 214, 215, 216, 217, 218, 219, 220, 221, 222, 223, 224, 225, 226, 227, 228, 229, 230, 231, 232, 233, 234, 235, 236, 237, 238, 239, 240, 241, 242, 243, 244, 245, 246, 247, 248, 249, 250, 251, 252, 253] (fun g => [(23, .p (.int .i64 ((g : Nat) : Int))), (19, .p (.int .i64 (((trN p o dry (hour : Int) i g).many : Nat) : Int))), (20, .p (.int .i64 (trN p o dry (hour : Int) i g).last)), (21, .p (.int .i64 (trN p o dry (hour : Int) i g).d)), (22, .p (.int .i64 (trN p o dry (hour : Int) i g).ended))]) (fun g => [.cells [.p (.int .i64 (cntB (wl (wsN p o (hour : Int) o.length) (hour : Int)) 4)), .p (.int .i64 (cntB (wh (wsN p o (hour : Int) o.length) (hour : Int)) 4))] 35]) (fun g => g ≤ o.length) (fun g => o.length - g) 0 (Nat.zero_le _) (To.sub (Sub.chk (Sub.cons rfl (Sub.cons rfl (Sub.cons rfl (Sub.cons rfl (Sub.cons rfl (Sub.nil)))))))) (fun k hg => ?_)
          refine AWp.seq ?_
          refine AWp.seq ?_
          refine AWp.region ?_
          refine AList.c 91 rfl rfl rfl (OpJ.move rfl rfl) ?_
          refine AList.c 92 rfl rfl rfl (OpJ.move rfl rfl) ?_
          refine AList.c 93 rfl rfl rfl (OpJ.lenSlice rfl rfl sl25 rfl) ?_
          refine AList.c 94 rfl rfl rfl (OpJ.lss rfl rfl rfl) ?_
          refine AList.nil ?_
          refine AWp.cond _ rfl (fun hc4 => ?_) (fun hc4 => ?_)
          · skip
            have hk0 : k < o.length := by have h := of_decide_eq_true hc4; omega
            have ht := tr_inv hp o dry (hour : Int) hi0 k (fun j hj => hall j (by omega))
            have hSB := stN_B hp o k
            have hwB : ((trN p o dry (hour : Int) i k).last = 0 ∧ (trN p o dry (hour : Int) i k).d = 0) ∨ (-1000 ≤ (trN p o dry (hour : Int) i k).last ∧ (trN p o dry (hour : Int) i k).last ≤ 1000000 ∧ 0 ≤ (trN p o dry (hour : Int) i k).d ∧ (trN p o dry (hour : Int) i k).d ≤ 1000) := tr_B hp (by omega) hi0 ht
            have hrb : 0 ≤ hrI p o k ∧ hrI p o k ≤ 1000000 := hr_B hp (by omega) (hall k hk0)
            have h16k := h16 _ (nn_mem (Nat.mod_lt k hdr))
            obtain ⟨W, hW⟩ : ∃ W, W = nn dry (k % dry.length) := ⟨_, rfl⟩
            rw [← hW] at h16k
            refine AWp.skip ?_
            refine AWp.join (fun (g : Unit) => [(2, .p (bysW dry)), (3, .p (.int .u16 (hour : Int))), (4, .p (.ip (pntC p) 0)), (10, .p (dpsV (mkD p o o.length))), (15, .ptr 0 0), (17, .p (.int .i64 (cntB (wetT p o dry (hour : Int)) i))), (18, .p (.int .i64 ((i : Nat) : Int))), (19, .p (.int .i64 (((trN p o dry (hour : Int) i (k + 1)).many : Nat) : Int))), (20, .p (.int .i64 (trN p o dry (hour : Int) i (k + 1)).last)), (21, .p (.int .i64 (trN p o dry (hour : Int) i (k + 1)).d)), (22, .p (.int .i64 (trN p o dry (hour : Int) i (k + 1)).ended)), (23, .p (.int .i64 ((k : Nat) : Int)))]) (fun (g : Unit) => [.cells [.p (.int .i64 (cntB (wl (wsN p o (hour : Int) o.length) (hour : Int)) 4)), .p (.int .i64 (cntB (wh (wsN p o (hour : Int) o.length) (hour : Int)) 4))] 35]) (fun (g : Unit) => True) ?_ (fun g hg => ?_)
            · skip
              refine AWp.block ?_
              refine AWp.seq ?_
              refine AWp.seq ?_
              refine AWp.region ?_
              refine AList.c 97 rfl rfl rfl (OpJ.move rfl rfl) ?_
              refine AList.c 98 rfl rfl rfl (OpJ.move rfl rfl) ?_
              refine AList.c 99 rfl rfl rfl (OpJ.indexG (g := dpt (mkD p o o.length)) dpt_get rfl rfl rfl sl25 el25 rfl (fun _ => rfl) (by decide) (by rw [mkD_len]; exact hk0)) ?_
              refine AList.c 100 rfl rfl rfl (OpJ.fieldAddr rfl rfl fd49_0 rfl) ?_
              refine AList.c 101 rfl rfl rfl (OpJ.load (v := .p (.int .i64 (nt o k))) rfl rfl ty3 (congrArg (fun z => some (V.p (PV.int .i64 (Dp.b z)))) (mkD_at p o hk0))) ?_
              refine AList.c 102 rfl rfl rfl (OpJ.move rfl rfl) ?_
              refine AList.c 103 rfl rfl rfl (OpJ.neq rfl rfl rfl) ?_
              refine AList.nil ?_
              refine AWp.cond _ rfl (fun hc5 => ?_) (fun hc5 => ?_)
              · skip
                have e : (trN p o dry (hour : Int) i (k + 1)) = (trN p o dry (hour : Int) i k) := if_neg (by simpa using hc5)
                refine AWp.exit ?_
                refine ⟨(), trivial, ?_⟩
                rw [e]
                exact To.sub (Sub.cons rfl (Sub.cons rfl (Sub.cons rfl (Sub.cons rfl (Sub.cons rfl (Sub.cons rfl (Sub.cons rfl (Sub.cons rfl (Sub.cons rfl (Sub.cons rfl (Sub.cons rfl (Sub.cons rfl (Sub.nil)))))))))))))
              · skip
                have hki : nt o k = (i : Int) := by simpa using hc5
                have hml2 : (trN p o dry (hour : Int) i k).many < (cot p.bs i).dry.length := tr_many hp (hall k hk0) hki ht
                have hsb := hp.dry _ (cot_mem hi0) _ (spt_mem hml2)
                have hdB := dT_B hp hi0 hml2 dry k
                have hmb : (trN p o dry (hour : Int) i k).many ≤ 20 := by rw [ht.many]; exact hSB.many i
                refine AWp.skip ?_
                refine AWp.join (fun (g : Unit) => [(2, .p (bysW dry)), (3, .p (.int .u16 (hour : Int))), (4, .p (.ip (pntC p) 0)), (10, .p (dpsV (mkD p o o.length))), (15, .ptr 0 0), (17, .p (.int .i64 (cntB (wetT p o dry (hour : Int)) i))), (18, .p (.int .i64 ((i : Nat) : Int))), (19, .p (.int .i64 (((trN p o dry (hour : Int) i k).many : Nat) : Int))), (20, .p (.int .i64 (trN p o dry (hour : Int) i k).last)), (21, .p (.int .i64 (trN p o dry (hour : Int) i k).d)), (22, .p (.int .i64 (trN p o dry (hour : Int) i k).ended)), (23, .p (.int .i64 ((k : Nat) : Int)))]) (fun (g : Unit) => [.cells [.p (.int .i64 (cntB (wl (wsN p o (hour : Int) o.length) (hour : Int)) 4)), .p (.int .i64 (cntB (wh (wsN p o (hour : Int) o.length) (hour : Int)) 4))] 35]) (fun (g : Unit) => True) ?_ (fun g hg => ?_)
                · skip
                  refine AWp.seq ?_
                  refine AWp.region ?_
                  refine AList.c 104 rfl rfl rfl (OpJ.move rfl rfl) ?_
                  refine AList.c 105 rfl rfl rfl (OpJ.gtr rfl rfl rfl) ?_
                  refine AList.nil ?_
                  refine AWp.cond _ rfl (fun hc6 => ?_) (fun hc6 => ?_)
                  · skip
                    have hM : 0 < (trN p o dry (hour : Int) i k).many := by have h := of_decide_eq_true hc6; omega
                    have hth := tr_hour (dry := dry) (hour := (hour : Int)) hp hi0 (fun j hj => hall j (by omega)) hki hM
                    have hm1 := (ht.last hM).1
                    have hsp := hp.dry _ (cot_mem hi0) _ (spt_mem hm1)
                    refine AWp.seq ?_
                    refine AWp.region ?_
                    refine AList.c 106 rfl rfl rfl (OpJ.fieldAddr rfl rfl fd24_2 rfl) ?_
                    refine AList.c 107 rfl rfl rfl (OpJ.load (v := .p (cotsV p.bs)) rfl rfl ty22 rfl) ?_
                    refine AList.c 108 rfl rfl rfl (OpJ.move rfl rfl) ?_
                    refine AList.c 109 rfl rfl rfl (OpJ.indexG (g := cot p.bs) cot_get rfl rfl rfl sl22 el22 rfl (fun _ => rfl) (by decide) hi0) ?_
                    refine AList.c 110 rfl rfl rfl (OpJ.fieldAddr rfl rfl fd52_0 rfl) ?_
                    refine AList.c 111 rfl rfl rfl (OpJ.load (v := .p (spnsV (cot p.bs i).dry)) rfl rfl ty50 rfl) ?_
                    refine AList.c 112 rfl rfl rfl (OpJ.move rfl rfl) ?_
                    refine AList.c 113 rfl rfl rfl (OpJ.sub_ (m := (((trN p o dry (hour : Int) i k).many - 1 : Nat) : Int)) rfl rfl rfl ((i64ok ?_).trans ?_)) ?_
                    · omega
                    · omega
                    refine AList.c 114 rfl rfl rfl (OpJ.indexG (g := spt (cot p.bs i).dry) spt_get rfl rfl rfl sl50 el50 rfl (fun _ => rfl) (by decide) hm1) ?_
                    refine AList.c 115 rfl rfl rfl (OpJ.load (v := .p (.agg (spt (cot p.bs i).dry ((trN p o dry (hour : Int) i k).many - 1)).cells)) rfl rfl ty35 rfl) ?_
                    refine AList.c 24 rfl rfl rfl (OpJ.allocOwn rfl zr35 rfl) ?_
                    refine AList.c0 rfl rfl (OpJ.store (H' := [.cells [.p (.int .i64 (cntB (wl (wsN p o (hour : Int) o.length) (hour : Int)) 4)), .p (.int .i64 (cntB (wh (wsN p o (hour : Int) o.length) (hour : Int)) 4))] 35, .cells ((spt (cot p.bs i).dry ((trN p o dry (hour : Int) i k).many - 1)).cells.map .p) 35]) rfl rfl rfl rfl rfl ty35 rfl rfl) ?_
                    refine AList.nil ?_
                    refine AWp.seq ?_
                    refine AWp.freeze 1 rfl rfl ?_
                    refine AWp.norm [0] [(2, _), (3, _), (4, _), (10, _), (15, _), (17, _), (18, _), (19, _), (20, _), (21, _), (22, _), (23, _), (24, _)] [.cells [.p (.int .i64 (cntB (wl (wsN p o (hour : Int) o.length) (hour : Int)) 4)), .p (.int .i64 (cntB (wh (wsN p o (hour : Int) o.length) (hour : Int)) 4))] 35] rfl (by repeat (first | exact Sub.nil | refine Sub.cons rfl ?_)) rfl ?_
                    refine AWp.regionDraw 33 mixed (by kernel_rfl) (by decide) ?_
                    refine AQuiet.cons 116 rfl rfl rfl (OpJ.move rfl rfl) ?_
                    refine AQuiet.cons 117 rfl rfl rfl (OpJ.move rfl rfl) ?_
                    refine AQuiet.cons 118 rfl rfl rfl (OpJ.indexG (g := dpt (mkD p o o.length)) dpt_get rfl rfl rfl sl25 el25 rfl (fun _ => rfl) (by decide) (by rw [mkD_len]; exact hk0)) ?_
                    refine AQuiet.cons 119 rfl rfl rfl (OpJ.fieldAddr rfl rfl fd49_1 rfl) ?_
                    refine AQuiet.cons 120 rfl rfl rfl (OpJ.load (v := .p (.int .i64 (hrI p o k))) rfl rfl ty3 (congrArg (fun z => some (V.p (PV.int .i64 (Dp.h z)))) (mkD_at p o hk0))) ?_
                    refine AQuiet.cons 121 rfl rfl rfl (OpJ.move rfl rfl) ?_
                    refine AQuiet.cons 122 rfl rfl rfl (OpJ.move rfl rfl) ?_
                    refine AQuiet.cons 123 rfl rfl rfl (OpJ.add rfl rfl rfl (i64ok ?_)) ?_
                    · omega
                    refine AQuiet.cons 124 rfl rfl rfl (OpJ.lss rfl rfl rfl) ?_
                    refine AQuiet.cons 125 rfl rfl rfl (OpJ.move rfl rfl) ?_
                    refine AQuiet.guard 126 125 rfl rfl rfl rfl rfl rfl rfl [(10, _)] (fun h => And.intro (.inl rfl) (trivial)) (fun h => (OpJ.move rfl rfl)) ?_
                    refine AQuiet.guard 127 125 rfl rfl rfl rfl rfl rfl rfl [(23, _)] (fun h => And.intro (.inl rfl) (trivial)) (fun h => (OpJ.move rfl rfl)) ?_
                    refine AQuiet.guard 128 125 rfl rfl rfl rfl rfl rfl rfl [(126, _), (127, _)] (fun h => And.intro (.inr ⟨_, rfl, h⟩) (And.intro (.inr ⟨_, rfl, h⟩) (trivial))) (fun h => (OpJ.indexG (g := dpt (mkD p o o.length)) dpt_get rfl rfl rfl sl25 el25 rfl (fun _ => rfl) (by decide) (by rw [mkD_len]; exact hk0))) ?_
                    refine AQuiet.guard 129 125 rfl rfl rfl rfl rfl rfl rfl [(128, _)] (fun h => And.intro (.inr ⟨_, rfl, h⟩) (trivial)) (fun h => (OpJ.fieldAddr rfl rfl fd49_1 rfl)) ?_
                    refine AQuiet.guard 130 125 rfl rfl rfl rfl rfl rfl rfl [(129, _)] (fun h => And.intro (.inr ⟨_, rfl, h⟩) (trivial)) (fun h => (OpJ.load (v := .p (.int .i64 (hrI p o k))) rfl rfl ty3 (congrArg (fun z => some (V.p (PV.int .i64 (Dp.h z)))) (mkD_at p o hk0)))) ?_
                    refine AQuiet.guard 131 125 rfl rfl rfl rfl rfl rfl rfl [(20, _)] (fun h => And.intro (.inl rfl) (trivial)) (fun h => (OpJ.move rfl rfl)) ?_
                    refine AQuiet.guard 132 125 rfl rfl rfl rfl rfl rfl rfl [(21, _)] (fun h => And.intro (.inl rfl) (trivial)) (fun h => (OpJ.move rfl rfl)) ?_
                    refine AQuiet.guard 133 125 rfl rfl rfl rfl rfl rfl rfl [(131, _), (132, _)] (fun h => And.intro (.inr ⟨_, rfl, h⟩) (And.intro (.inr ⟨_, rfl, h⟩) (trivial))) (fun h => (OpJ.add rfl rfl rfl (i64ok (by omega)))) ?_
                    refine AQuiet.guard 134 125 rfl rfl rfl rfl rfl rfl rfl [(4, _)] (fun h => And.intro (.inl rfl) (trivial)) (fun h => (OpJ.fieldAddr rfl rfl fd24_2 rfl)) ?_
                    refine AQuiet.guard 135 125 rfl rfl rfl rfl rfl rfl rfl [(134, _)] (fun h => And.intro (.inr ⟨_, rfl, h⟩) (trivial)) (fun h => (OpJ.load (v := .p (cotsV p.bs)) rfl rfl ty22 rfl)) ?_
                    refine AQuiet.guard 136 125 rfl rfl rfl rfl rfl rfl rfl [(18, _)] (fun h => And.intro (.inl rfl) (trivial)) (fun h => (OpJ.move rfl rfl)) ?_
                    refine AQuiet.guard 137 125 rfl rfl rfl rfl rfl rfl rfl [(135, _), (136, _)] (fun h => And.intro (.inr ⟨_, rfl, h⟩) (And.intro (.inr ⟨_, rfl, h⟩) (trivial))) (fun h => (OpJ.indexG (g := cot p.bs) cot_get rfl rfl rfl sl22 el22 rfl (fun _ => rfl) (by decide) hi0)) ?_
                    refine AQuiet.guard 138 125 rfl rfl rfl rfl rfl rfl rfl [(137, _)] (fun h => And.intro (.inr ⟨_, rfl, h⟩) (trivial)) (fun h => (OpJ.fieldAddr rfl rfl fd52_1 rfl)) ?_
                    refine AQuiet.guard 139 125 rfl rfl rfl rfl rfl rfl rfl [(138, _)] (fun h => And.intro (.inr ⟨_, rfl, h⟩) (trivial)) (fun h => (OpJ.load (v := .p (.int .i64 (cot p.bs i).late)) rfl rfl ty3 rfl)) ?_
                    refine AQuiet.guard 140 125 rfl rfl rfl rfl rfl rfl rfl [(133, _), (139, _)] (fun h => And.intro (.inr ⟨_, rfl, h⟩) (And.intro (.inr ⟨_, rfl, h⟩) (trivial))) (fun h => (OpJ.add rfl rfl rfl (i64ok (by omega)))) ?_
                    refine AQuiet.guard 141 125 rfl rfl rfl rfl rfl rfl rfl [(24, _)] (fun h => And.intro (.inl rfl) (trivial)) (fun h => (OpJ.fieldAddr rfl rfl fd35_1 rfl)) ?_
                    refine AQuiet.guard 142 125 rfl rfl rfl rfl rfl rfl rfl [(141, _)] (fun h => And.intro (.inr ⟨_, rfl, h⟩) (trivial)) (fun h => (OpJ.load (v := .p (.int .i64 (spt (cot p.bs i).dry ((trN p o dry (hour : Int) i k).many - 1)).hi)) rfl rfl ty3 rfl)) ?_
                    refine AQuiet.guard 143 125 rfl rfl rfl rfl rfl rfl rfl [(140, _), (142, _)] (fun h => And.intro (.inr ⟨_, rfl, h⟩) (And.intro (.inr ⟨_, rfl, h⟩) (trivial))) (fun h => (OpJ.add rfl rfl rfl (i64ok (by omega)))) ?_
                    refine AQuiet.guard 144 125 rfl rfl rfl rfl rfl rfl rfl [(24, _)] (fun h => And.intro (.inl rfl) (trivial)) (fun h => (OpJ.fieldAddr rfl rfl fd35_0 rfl)) ?_
                    refine AQuiet.guard 145 125 rfl rfl rfl rfl rfl rfl rfl [(144, _)] (fun h => And.intro (.inr ⟨_, rfl, h⟩) (trivial)) (fun h => (OpJ.load (v := .p (.int .i64 (spt (cot p.bs i).dry ((trN p o dry (hour : Int) i k).many - 1)).lo)) rfl rfl ty3 rfl)) ?_
                    refine AQuiet.guard 146 125 rfl rfl rfl rfl rfl rfl rfl [(143, _), (145, _)] (fun h => And.intro (.inr ⟨_, rfl, h⟩) (And.intro (.inr ⟨_, rfl, h⟩) (trivial))) (fun h => (OpJ.sub_ rfl rfl rfl (i64ok (by omega)))) ?_
                    refine AQuiet.guard 147 125 rfl rfl rfl rfl rfl rfl rfl [(130, _), (146, _)] (fun h => And.intro (.inr ⟨_, rfl, h⟩) (And.intro (.inr ⟨_, rfl, h⟩) (trivial))) (fun h => (OpJ.gtr rfl rfl rfl)) ?_
                    refine AQuiet.cons 148 rfl rfl rfl (OpJ.or_ rfl rfl rfl ?_) ?_
                    · first | (intro h; rw [h]; rfl) | (intro h; simp_all)
                    refine AQuiet.nil ?_
                    refine AList.nil ?_
                    refine AWp.cond _ rfl (fun hc7 => ?_) (fun hc7 => ?_)
                    · skip
                      exfalso
                      simp only [Bool.or_eq_true, decide_eq_true_eq] at hc7
                      omega
                    · skip
                      refine AWp.skip ?_
                      exact ⟨(), trivial, To.sub (Sub.cons rfl (Sub.cons rfl (Sub.cons rfl (Sub.cons rfl (Sub.cons rfl (Sub.cons rfl (Sub.cons rfl (Sub.cons rfl (Sub.cons rfl (Sub.cons rfl (Sub.cons rfl (Sub.cons rfl (Sub.nil)))))))))))))⟩
                  · skip
                    refine AWp.skip ?_
                    exact ⟨(), trivial, To.sub (Sub.cons rfl (Sub.cons rfl (Sub.cons rfl (Sub.cons rfl (Sub.cons rfl (Sub.cons rfl (Sub.cons rfl (Sub.cons rfl (Sub.cons rfl (Sub.cons rfl (Sub.cons rfl (Sub.cons rfl (Sub.nil)))))))))))))⟩
                · skip
                  refine AWp.seq ?_
                  refine AWp.region ?_
                  refine AList.c 149 rfl rfl rfl (OpJ.fieldAddr rfl rfl fd24_2 rfl) ?_
                  refine AList.c 150 rfl rfl rfl (OpJ.load (v := .p (cotsV p.bs)) rfl rfl ty22 rfl) ?_
                  refine AList.c 151 rfl rfl rfl (OpJ.move rfl rfl) ?_
                  refine AList.c 152 rfl rfl rfl (OpJ.indexG (g := cot p.bs) cot_get rfl rfl rfl sl22 el22 rfl (fun _ => rfl) (by decide) hi0) ?_
                  refine AList.c 153 rfl rfl rfl (OpJ.fieldAddr rfl rfl fd52_0 rfl) ?_
                  refine AList.c 154 rfl rfl rfl (OpJ.load (v := .p (spnsV (cot p.bs i).dry)) rfl rfl ty50 rfl) ?_
                  refine AList.c 155 rfl rfl rfl (OpJ.move rfl rfl) ?_
                  refine AList.c 156 rfl rfl rfl (OpJ.indexG (g := spt (cot p.bs i).dry) spt_get rfl rfl rfl sl50 el50 rfl (fun _ => rfl) (by decide) hml2) ?_
                  refine AList.c 157 rfl rfl rfl (OpJ.load (v := .p (.agg (spt (cot p.bs i).dry (trN p o dry (hour : Int) i k).many).cells)) rfl rfl ty35 rfl) ?_
                  refine AList.c 25 rfl rfl rfl (OpJ.allocOwn rfl zr35 rfl) ?_
                  refine AList.c0 rfl rfl (OpJ.store (H' := [.cells [.p (.int .i64 (cntB (wl (wsN p o (hour : Int) o.length) (hour : Int)) 4)), .p (.int .i64 (cntB (wh (wsN p o (hour : Int) o.length) (hour : Int)) 4))] 35, .cells ((spt (cot p.bs i).dry (trN p o dry (hour : Int) i k).many).cells.map .p) 35]) rfl rfl rfl rfl rfl ty35 rfl rfl) ?_
                  refine AList.nil ?_
                  refine AWp.seq ?_
                  refine AWp.freeze 1 rfl rfl ?_
                  refine AWp.norm [0] [(2, _), (3, _), (4, _), (10, _), (15, _), (17, _), (18, _), (19, _), (20, _), (21, _), (22, _), (23, _), (25, _)] [.cells [.p (.int .i64 (cntB (wl (wsN p o (hour : Int) o.length) (hour : Int)) 4)), .p (.int .i64 (cntB (wh (wsN p o (hour : Int) o.length) (hour : Int)) 4))] 35] rfl (by repeat (first | exact Sub.nil | refine Sub.cons rfl ?_)) rfl ?_
                  refine AWp.regionDraw 9 mixed (by kernel_rfl) (by decide) ?_
                  refine AQuiet.cons 158 rfl rfl rfl (OpJ.move rfl rfl) ?_
                  refine AQuiet.cons 159 rfl rfl rfl (OpJ.move rfl rfl) ?_
                  refine AQuiet.cons 160 rfl rfl rfl (OpJ.indexG (g := dpt (mkD p o o.length)) dpt_get rfl rfl rfl sl25 el25 rfl (fun _ => rfl) (by decide) (by rw [mkD_len]; exact hk0)) ?_
                  refine AQuiet.cons 161 rfl rfl rfl (OpJ.fieldAddr rfl rfl fd49_1 rfl) ?_
                  refine AQuiet.cons 162 rfl rfl rfl (OpJ.load (v := .p (.int .i64 (hrI p o k))) rfl rfl ty3 (congrArg (fun z => some (V.p (PV.int .i64 (Dp.h z)))) (mkD_at p o hk0))) ?_
                  refine AQuiet.cons 163 rfl rfl rfl (OpJ.fieldAddr rfl rfl fd24_0 rfl) ?_
                  refine AQuiet.cons 164 rfl rfl rfl (OpJ.load (v := .p (.int .i64 p.dip)) rfl rfl ty3 rfl) ?_
                  refine AQuiet.cons 165 rfl rfl rfl (OpJ.add rfl rfl rfl (i64ok ?_)) ?_
                  · omega
                  refine AQuiet.cons 20 rfl rfl rfl (OpJ.assign rfl rfl) ?_
                  refine AQuiet.nil ?_
                  refine AList.nil ?_
                  refine AWp.seq ?_
                  refine AWp.regionDraw 19 mixed (by kernel_rfl) (by decide) ?_
                  refine AQuiet.cons 166 rfl rfl rfl (OpJ.fieldAddr rfl rfl fd35_0 rfl) ?_
                  refine AQuiet.cons 167 rfl rfl rfl (OpJ.load (v := .p (.int .i64 (spt (cot p.bs i).dry (trN p o dry (hour : Int) i k).many).lo)) rfl rfl ty3 rfl) ?_
                  refine AQuiet.cons 168 rfl rfl rfl (OpJ.move rfl rfl) ?_
                  refine AQuiet.cons 169 rfl rfl rfl (OpJ.move rfl rfl) ?_
                  refine AQuiet.cons 170 rfl rfl rfl (OpJ.move rfl rfl) ?_
                  refine AQuiet.cons 171 rfl rfl rfl (OpJ.lenSlice rfl rfl sl43 rfl) ?_
                  refine AQuiet.cons 172 rfl rfl rfl (OpJ.rem (m := ((k % dry.length : Nat) : Int)) rfl rfl rfl ?_ ?_) ?_
                  · omega
                  · exact tmodN _ _
                  refine AQuiet.cons 173 rfl rfl rfl (OpJ.indexG (g := nn dry) nn_get rfl rfl rfl sl43 el43 rfl (fun _ => rfl) (by decide) (Nat.mod_lt _ hdr)) ?_
                  refine AQuiet.cons 174 rfl rfl rfl (OpJ.load (v := .p (.int .u16 ((nn dry (k % dry.length) : Nat) : Int))) rfl rfl ty44 rfl) ?_
                  refine AQuiet.cons 175 rfl rfl rfl (OpJ.convInt rfl rfl (by rw [un44]; rfl) un3 (i64ok ?_)) ?_
                  · rw [← hW]; omega
                  refine AQuiet.cons 176 rfl rfl rfl (OpJ.fieldAddr rfl rfl fd35_1 rfl) ?_
                  refine AQuiet.cons 177 rfl rfl rfl (OpJ.load (v := .p (.int .i64 (spt (cot p.bs i).dry (trN p o dry (hour : Int) i k).many).hi)) rfl rfl ty3 rfl) ?_
                  refine AQuiet.cons 178 rfl rfl rfl (OpJ.fieldAddr rfl rfl fd35_0 rfl) ?_
                  refine AQuiet.cons 179 rfl rfl rfl (OpJ.load (v := .p (.int .i64 (spt (cot p.bs i).dry (trN p o dry (hour : Int) i k).many).lo)) rfl rfl ty3 rfl) ?_
                  refine AQuiet.cons 180 rfl rfl rfl (OpJ.sub_ rfl rfl rfl (i64ok ?_)) ?_
                  · omega
                  refine AQuiet.cons 181 rfl rfl rfl (OpJ.add rfl rfl rfl (i64ok ?_)) ?_
                  · omega
                  refine AQuiet.cons 182 rfl rfl rfl (OpJ.rem (m := ((nn dry (k % dry.length) % ((spt (cot p.bs i).dry (trN p o dry (hour : Int) i k).many).hi - (spt (cot p.bs i).dry (trN p o dry (hour : Int) i k).many).lo + 1).toNat : Nat) : Int)) rfl rfl rfl ?_ ?_) ?_
                  · omega
                  · exact remT (by omega)
                  refine AQuiet.cons 183 rfl rfl rfl (OpJ.add (m := (dT p dry i (trN p o dry (hour : Int) i k).many k)) rfl rfl rfl ((i64ok ?_).trans ?_)) ?_
                  · show _ ≤ dT p dry i (trN p o dry (hour : Int) i k).many k ∧ dT p dry i (trN p o dry (hour : Int) i k).many k ≤ _; omega
                  · rfl
                  refine AQuiet.cons 21 rfl rfl rfl (OpJ.assign rfl rfl) ?_
                  refine AQuiet.nil ?_
                  refine AList.nil ?_
                  refine AWp.seq ?_
                  refine AWp.region ?_
                  refine AList.c 184 rfl rfl rfl (OpJ.move rfl rfl) ?_
                  refine AList.c 185 rfl rfl rfl (OpJ.add (m := (((trN p o dry (hour : Int) i k).many + 1 : Nat) : Int)) rfl rfl rfl ((i64ok ?_).trans ?_)) ?_
                  · omega
                  · rfl
                  refine AList.c 19 rfl rfl rfl (OpJ.assign rfl rfl) ?_
                  refine AList.nil ?_
                  refine AWp.seq ?_
                  refine AWp.region ?_
                  refine AList.c 186 rfl rfl rfl (OpJ.move rfl rfl) ?_
                  refine AList.c 187 rfl rfl rfl (OpJ.move rfl rfl) ?_
                  refine AList.c 188 rfl rfl rfl (OpJ.convInt rfl rfl (by rw [un44]; rfl) un3 (i64ok ?_)) ?_
                  · omega
                  refine AList.c 189 rfl rfl rfl (OpJ.leq rfl rfl rfl) ?_
                  refine AList.nil ?_
                  refine AWp.cond _ rfl (fun hc8 => ?_) (fun hc8 => ?_)
                  · skip
                    have e : (trN p o dry (hour : Int) i (k + 1)) = ⟨(trN p o dry (hour : Int) i k).many + 1, hrI p o k + p.dip, dT p dry i (trN p o dry (hour : Int) i k).many k, hrI p o k + p.dip + dT p dry i (trN p o dry (hour : Int) i k).many k⟩ := (if_pos hki).trans (by rw [if_pos (of_decide_eq_true hc8)])
                    refine AWp.region ?_
                    refine AList.c 190 rfl rfl rfl (OpJ.move rfl rfl) ?_
                    refine AList.c 191 rfl rfl rfl (OpJ.move rfl rfl) ?_
                    refine AList.c 192 rfl rfl rfl (OpJ.add rfl rfl rfl (i64ok ?_)) ?_
                    · omega
                    refine AList.c 22 rfl rfl rfl (OpJ.assign rfl rfl) ?_
                    refine AList.nil ?_
                    refine ⟨(), trivial, ?_⟩
                    rw [e]
                    exact To.sub (Sub.cons rfl (Sub.cons rfl (Sub.cons rfl (Sub.cons rfl (Sub.cons rfl (Sub.cons rfl (Sub.cons rfl (Sub.cons rfl (Sub.cons rfl (Sub.cons rfl (Sub.cons rfl (Sub.cons rfl (Sub.nil)))))))))))))
                  · skip
                    have e : (trN p o dry (hour : Int) i (k + 1)) = ⟨(trN p o dry (hour : Int) i k).many + 1, hrI p o k + p.dip, dT p dry i (trN p o dry (hour : Int) i k).many k, (trN p o dry (hour : Int) i k).ended⟩ := (if_pos hki).trans (by rw [if_neg (of_decide_eq_false hc8)])
                    refine AWp.skip ?_
                    refine ⟨(), trivial, ?_⟩
                    rw [e]
                    exact To.sub (Sub.cons rfl (Sub.cons rfl (Sub.cons rfl (Sub.cons rfl (Sub.cons rfl (Sub.cons rfl (Sub.cons rfl (Sub.cons rfl (Sub.cons rfl (Sub.cons rfl (Sub.cons rfl (Sub.cons rfl (Sub.nil)))))))))))))
            · skip
              refine AWp.region ?_
              refine AList.c 95 rfl rfl rfl (OpJ.move rfl rfl) ?_
              refine AList.c 96 rfl rfl rfl (OpJ.add rfl rfl rfl (i64ok ?_)) ?_
              · omega
              refine AList.c 23 rfl rfl rfl (OpJ.assign rfl rfl) ?_
              refine AList.nil ?_
              refine ⟨k + 1, ?_, ?_, ?_⟩
              · omega
              · omega
              exact To.sub (Sub.cons rfl (Sub.cons rfl (Sub.cons rfl (Sub.cons rfl (Sub.cons rfl (by repeat (first | exact Sub.nil | refine Sub.cons rfl ?_)))))))
          · skip
            obtain rfl : k = o.length := by have h := of_decide_eq_false hc4; omega
            refine AWp.exit ?_
            refine AWp.seq ?_
            refine AWp.region ?_
            refine AList.c 193 rfl rfl rfl (OpJ.move rfl rfl) ?_
            refine AList.c 194 rfl rfl rfl (OpJ.move rfl rfl) ?_
            refine AList.c 195 rfl rfl rfl (OpJ.convInt rfl rfl (by rw [un44]; rfl) un3 (i64ok ?_)) ?_
            · omega
            refine AList.c 196 rfl rfl rfl (OpJ.gtr rfl rfl rfl) ?_
            refine AList.nil ?_
            refine AWp.cond _ rfl (fun hc9 => ?_) (fun hc9 => ?_)
            · skip
              have e : cntB (wetT p o dry (hour : Int)) (i + 1) = cntB (wetT p o dry (hour : Int)) i + 1 := if_pos hc9
              refine AWp.region ?_
              refine AList.c 197 rfl rfl rfl (OpJ.move rfl rfl) ?_
              refine AList.c 198 rfl rfl rfl (OpJ.add rfl rfl rfl (i64ok ?_)) ?_
              · omega
              refine AList.c 17 rfl rfl rfl (OpJ.assign rfl rfl) ?_
              refine AList.nil ?_
              refine AWp.region ?_
              refine AList.c 89 rfl rfl rfl (OpJ.move rfl rfl) ?_
              refine AList.c 90 rfl rfl rfl (OpJ.add rfl rfl rfl (i64ok ?_)) ?_
              · omega
              refine AList.c 18 rfl rfl rfl (OpJ.assign rfl rfl) ?_
              refine AList.nil ?_
              refine ⟨i + 1, ?_, ?_, ?_⟩
              · omega
              · omega
              rw [e]
              exact To.sub (Sub.cons rfl (Sub.cons rfl (by repeat (first | exact Sub.nil | refine Sub.cons rfl ?_))))
            · skip
              have e : cntB (wetT p o dry (hour : Int)) (i + 1) = cntB (wetT p o dry (hour : Int)) i := if_neg (by show ¬ wetT p o dry (hour : Int) i = true; rw [show wetT p o dry (hour : Int) i = false from hc9]; decide)
              refine AWp.skip ?_
              refine AWp.region ?_
              refine AList.c 89 rfl rfl rfl (OpJ.move rfl rfl) ?_
              refine AList.c 90 rfl rfl rfl (OpJ.add rfl rfl rfl (i64ok ?_)) ?_
              · omega
              refine AList.c 18 rfl rfl rfl (OpJ.assign rfl rfl) ?_
              refine AList.nil ?_
              refine ⟨i + 1, ?_, ?_, ?_⟩
              · omega
              · omega
              rw [e]
              exact To.sub (Sub.cons rfl (Sub.cons rfl (by repeat (first | exact Sub.nil | refine Sub.cons rfl ?_))))
        · skip
          obtain rfl : i = p.bs.length := by have h := of_decide_eq_false hc3; omega
          refine AWp.exit ?_
          refine AWp.seq ?_
          refine AWp.seq ?_
          refine AWp.region ?_
          refine AList.c 199 rfl rfl rfl (OpJ.move rfl rfl) ?_
          refine AList.c 200 rfl rfl rfl (OpJ.fieldAddr rfl rfl fd35_0 rfl) ?_
          refine AList.c 201 rfl rfl rfl (OpJ.load (v := .p (.int .i64 (cntB (wl (wsN p o (hour : Int) o.length) (hour : Int)) 4))) rfl rfl ty3 rfl) ?_
          refine AList.c 202 rfl rfl rfl (OpJ.lss rfl rfl rfl) ?_
          refine AList.c 203 rfl rfl rfl (OpJ.move rfl rfl) ?_
          refine AList.g 204 203 rfl rfl rfl rfl rfl rfl rfl [(17, _)] (fun h => And.intro (.inl rfl) (trivial)) (fun h => (OpJ.move rfl rfl)) ?_
          refine AList.g 205 203 rfl rfl rfl rfl rfl rfl rfl [(15, _)] (fun h => And.intro (.inl rfl) (trivial)) (fun h => (OpJ.fieldAddr rfl rfl fd35_1 rfl)) ?_
          refine AList.g 206 203 rfl rfl rfl rfl rfl rfl rfl [(205, _)] (fun h => And.intro (.inr ⟨_, rfl, h⟩) (trivial)) (fun h => (OpJ.load (v := .p (.int .i64 (cntB (wh (wsN p o (hour : Int) o.length) (hour : Int)) 4))) rfl rfl ty3 rfl)) ?_
          refine AList.g 207 203 rfl rfl rfl rfl rfl rfl rfl [(204, _), (206, _)] (fun h => And.intro (.inr ⟨_, rfl, h⟩) (And.intro (.inr ⟨_, rfl, h⟩) (trivial))) (fun h => (OpJ.gtr rfl rfl rfl)) ?_
          refine AList.c 208 rfl rfl rfl (OpJ.or_ rfl rfl rfl ?_) ?_
          · first | (intro h; rw [h]; rfl) | (intro h; simp_all)
          refine AList.nil ?_
          refine AWp.cond _ rfl (fun hc10 => ?_) (fun hc10 => ?_)
          · skip
            exfalso
            simp only [Bool.or_eq_true, decide_eq_true_eq] at hc10
            omega
          · skip
            refine AWp.skip ?_
            refine AWp.seq ?_
            refine AWp.seq ?_
            refine AWp.region ?_
            refine AList.c 26 rfl rfl rfl (OpJ.assign rfl rfl) ?_
            refine AList.nil ?_
            refine AWp.block ?_
            refine AWp.loopHL [4, 10, 253] (fun g => [(26, .p (.int .i64 ((g : Nat) : Int)))]) (fun g => [.cells [.p (.int .i64 (cntB (wl (wsN p o (hour : Int) o.length) (hour : Int)) 4)), .p (.int .i64 (cntB (wh (wsN p o (hour : Int) o.length) (hour : Int)) 4))] 35]) (fun g => g ≤ o.length) (fun g => o.length - g) 0 (Nat.zero_le _) (To.sub (Sub.chk (Sub.cons rfl (Sub.nil)))) (fun k hg => ?_)
            refine AWp.seq ?_
            refine AWp.seq ?_
            refine AWp.region ?_
            refine AList.c 209 rfl rfl rfl (OpJ.move rfl rfl) ?_
            refine AList.c 210 rfl rfl rfl (OpJ.move rfl rfl) ?_
            refine AList.c 211 rfl rfl rfl (OpJ.lenSlice rfl rfl sl25 rfl) ?_
            refine AList.c 212 rfl rfl rfl (OpJ.lss rfl rfl rfl) ?_
            refine AList.nil ?_
            refine AWp.cond _ rfl (fun hc11 => ?_) (fun hc11 => ?_)
            · skip
              have hk0 : k < o.length := by have h := of_decide_eq_true hc11; omega
              have hrb : 0 ≤ hrI p o k ∧ hrI p o k ≤ 1000000 := hr_B hp (by omega) (hall k hk0)
              have hrb1 : 0 ≤ hrI p o (k - 1) ∧ hrI p o (k - 1) ≤ 1000000 := hr_B hp (by omega) (hall (k - 1) (by omega))
              refine AWp.skip ?_
              refine AWp.seq ?_
              refine AWp.block ?_
              refine AWp.seq ?_
              refine AWp.regionDraw 38 mixed (by kernel_rfl) (by decide) ?_
              refine AQuiet.cons 215 rfl rfl rfl (OpJ.move rfl rfl) ?_
              refine AQuiet.cons 216 rfl rfl rfl (OpJ.gtr rfl rfl rfl) ?_
              refine AQuiet.cons 217 rfl rfl rfl (OpJ.move rfl rfl) ?_
              refine AQuiet.guard 218 217 rfl rfl rfl rfl rfl rfl rfl [(10, _)] (fun h => And.intro (.inl rfl) (trivial)) (fun h => (OpJ.move rfl rfl)) ?_
              refine AQuiet.guard 219 217 rfl rfl rfl rfl rfl rfl rfl [(26, _)] (fun h => And.intro (.inl rfl) (trivial)) (fun h => (OpJ.move rfl rfl)) ?_
              refine AQuiet.guard 220 217 rfl rfl rfl rfl rfl rfl rfl [(218, _), (219, _)] (fun h => And.intro (.inr ⟨_, rfl, h⟩) (And.intro (.inr ⟨_, rfl, h⟩) (trivial))) (fun h => (OpJ.indexG (g := dpt (mkD p o o.length)) dpt_get rfl rfl rfl sl25 el25 rfl (fun _ => rfl) (by decide) (by rw [mkD_len]; exact hk0))) ?_
              refine AQuiet.guard 221 217 rfl rfl rfl rfl rfl rfl rfl [(220, _)] (fun h => And.intro (.inr ⟨_, rfl, h⟩) (trivial)) (fun h => (OpJ.fieldAddr rfl rfl fd49_1 rfl)) ?_
              refine AQuiet.guard 222 217 rfl rfl rfl rfl rfl rfl rfl [(221, _)] (fun h => And.intro (.inr ⟨_, rfl, h⟩) (trivial)) (fun h => (OpJ.load (v := .p (.int .i64 (hrI p o k))) rfl rfl ty3 (congrArg (fun z => some (V.p (PV.int .i64 (Dp.h z)))) (mkD_at p o hk0)))) ?_
              refine AQuiet.guard 223 217 rfl rfl rfl rfl rfl rfl rfl [(10, _)] (fun h => And.intro (.inl rfl) (trivial)) (fun h => (OpJ.move rfl rfl)) ?_
              refine AQuiet.guard 224 217 rfl rfl rfl rfl rfl rfl rfl [(26, _)] (fun h => And.intro (.inl rfl) (trivial)) (fun h => (OpJ.move rfl rfl)) ?_
              refine AQuiet.guard 225 217 rfl rfl rfl rfl rfl rfl rfl [(224, _)] (fun h => And.intro (.inr ⟨_, rfl, h⟩) (trivial)) (fun h => (OpJ.sub_ (m := ((k - 1 : Nat) : Int)) rfl rfl rfl ((i64ok (by omega)).trans (by have h2 := of_decide_eq_true (eq_of_beq h); omega)))) ?_
              refine AQuiet.guard 226 217 rfl rfl rfl rfl rfl rfl rfl [(223, _), (225, _)] (fun h => And.intro (.inr ⟨_, rfl, h⟩) (And.intro (.inr ⟨_, rfl, h⟩) (trivial))) (fun h => (OpJ.indexG (g := dpt (mkD p o o.length)) dpt_get rfl rfl rfl sl25 el25 rfl (fun _ => rfl) (by decide) (by rw [mkD_len]; omega))) ?_
              refine AQuiet.guard 227 217 rfl rfl rfl rfl rfl rfl rfl [(226, _)] (fun h => And.intro (.inr ⟨_, rfl, h⟩) (trivial)) (fun h => (OpJ.fieldAddr rfl rfl fd49_1 rfl)) ?_
              refine AQuiet.guard 228 217 rfl rfl rfl rfl rfl rfl rfl [(227, _)] (fun h => And.intro (.inr ⟨_, rfl, h⟩) (trivial)) (fun h => (OpJ.load (v := .p (.int .i64 (hrI p o (k - 1)))) rfl rfl ty3 (congrArg (fun z => some (V.p (PV.int .i64 (Dp.h z)))) (mkD_at p o (show k - 1 < o.length by omega))))) ?_
              refine AQuiet.guard 229 217 rfl rfl rfl rfl rfl rfl rfl [(4, _)] (fun h => And.intro (.inl rfl) (trivial)) (fun h => (OpJ.fieldAddr rfl rfl fd24_0 rfl)) ?_
              refine AQuiet.guard 230 217 rfl rfl rfl rfl rfl rfl rfl [(229, _)] (fun h => And.intro (.inr ⟨_, rfl, h⟩) (trivial)) (fun h => (OpJ.load (v := .p (.int .i64 p.dip)) rfl rfl ty3 rfl)) ?_
              refine AQuiet.guard 231 217 rfl rfl rfl rfl rfl rfl rfl [(228, _), (230, _)] (fun h => And.intro (.inr ⟨_, rfl, h⟩) (And.intro (.inr ⟨_, rfl, h⟩) (trivial))) (fun h => (OpJ.add rfl rfl rfl (i64ok (by omega)))) ?_
              refine AQuiet.guard 232 217 rfl rfl rfl rfl rfl rfl rfl [(222, _), (231, _)] (fun h => And.intro (.inr ⟨_, rfl, h⟩) (And.intro (.inr ⟨_, rfl, h⟩) (trivial))) (fun h => (OpJ.lss rfl rfl rfl)) ?_
              refine AQuiet.cons 233 rfl rfl rfl (OpJ.and_ rfl rfl rfl ?_) ?_
              · first | (intro h; rw [h]; rfl) | (intro h; simp_all)
              refine AQuiet.cons 234 rfl rfl rfl (OpJ.move rfl rfl) ?_
              refine AQuiet.guard 235 234 rfl rfl rfl rfl rfl rfl rfl [(4, _)] (fun h => And.intro (.inl rfl) (trivial)) (fun h => (OpJ.load (v := .p (pntV p)) rfl rfl ty24 rfl)) ?_
              refine AQuiet.guard 236 234 rfl rfl rfl rfl rfl rfl rfl [(10, _)] (fun h => And.intro (.inl rfl) (trivial)) (fun h => (OpJ.move rfl rfl)) ?_
              refine AQuiet.guard 237 234 rfl rfl rfl rfl rfl rfl rfl [(26, _)] (fun h => And.intro (.inl rfl) (trivial)) (fun h => (OpJ.move rfl rfl)) ?_
              refine AQuiet.guard 238 234 rfl rfl rfl rfl rfl rfl rfl [(237, _)] (fun h => And.intro (.inr ⟨_, rfl, h⟩) (trivial)) (fun h => (OpJ.add (m := ((k + 1 : Nat) : Int)) rfl rfl rfl ((i64ok (by omega)).trans (by omega)))) ?_
              refine AQuiet.guard 239 234 rfl rfl rfl rfl rfl rfl rfl [(236, _), (238, _)] (fun h => And.intro (.inr ⟨_, rfl, h⟩) (And.intro (.inr ⟨_, rfl, h⟩) (trivial))) (fun h => (OpJ.sliceIs (l := 0) (h := (k + 1)) (r := (((mkD p o o.length).take (k + 1)).flatMap Dp.cells)) rfl rfl sl25 el25 rfl ⟨_, rfl⟩ (by omega) (by omega) (takeD (mkD p o o.length) (k + 1)))) ?_
              refine AQuiet.guard 240 234 rfl rfl rfl rfl rfl rfl rfl [(10, _)] (fun h => And.intro (.inl rfl) (trivial)) (fun h => (OpJ.move rfl rfl)) ?_
              refine AQuiet.guard 241 234 rfl rfl rfl rfl rfl rfl rfl [(26, _)] (fun h => And.intro (.inl rfl) (trivial)) (fun h => (OpJ.move rfl rfl)) ?_
              refine AQuiet.guard 242 234 rfl rfl rfl rfl rfl rfl rfl [(240, _), (241, _)] (fun h => And.intro (.inr ⟨_, rfl, h⟩) (And.intro (.inr ⟨_, rfl, h⟩) (trivial))) (fun h => (OpJ.indexG (g := dpt (mkD p o o.length)) dpt_get rfl rfl rfl sl25 el25 rfl (fun _ => rfl) (by decide) (by rw [mkD_len]; exact hk0))) ?_
              refine AQuiet.guard 243 234 rfl rfl rfl rfl rfl rfl rfl [(242, _)] (fun h => And.intro (.inr ⟨_, rfl, h⟩) (trivial)) (fun h => (OpJ.fieldAddr rfl rfl fd49_1 rfl)) ?_
              refine AQuiet.guard 244 234 rfl rfl rfl rfl rfl rfl rfl [(243, _)] (fun h => And.intro (.inr ⟨_, rfl, h⟩) (trivial)) (fun h => (OpJ.load (v := .p (.int .i64 (hrI p o k))) rfl rfl ty3 (congrArg (fun z => some (V.p (PV.int .i64 (Dp.h z)))) (mkD_at p o hk0)))) ?_
              refine AQuiet.guard 245 234 rfl rfl rfl rfl rfl rfl rfl [(4, _)] (fun h => And.intro (.inl rfl) (trivial)) (fun h => (OpJ.fieldAddr rfl rfl fd24_0 rfl)) ?_
              refine AQuiet.guard 246 234 rfl rfl rfl rfl rfl rfl rfl [(245, _)] (fun h => And.intro (.inr ⟨_, rfl, h⟩) (trivial)) (fun h => (OpJ.load (v := .p (.int .i64 p.dip)) rfl rfl ty3 rfl)) ?_
              refine AQuiet.guard 247 234 rfl rfl rfl rfl rfl rfl rfl [(244, _), (246, _)] (fun h => And.intro (.inr ⟨_, rfl, h⟩) (And.intro (.inr ⟨_, rfl, h⟩) (trivial))) (fun h => (OpJ.add rfl rfl rfl (i64ok (by omega)))) ?_
              refine AQuiet.guard 248 234 rfl rfl rfl rfl rfl rfl rfl [(235, _), (239, _), (247, _)] (fun h => And.intro (.inr ⟨_, rfl, h⟩) (And.intro (.inr ⟨_, rfl, h⟩) (And.intro (.inr ⟨_, rfl, h⟩) (trivial)))) (fun h => (OpJ.callP (hang_T hp hall (by omega) hk0) rfl rfl rfl rfl rf23)) ?_
              refine AQuiet.guard 249 234 rfl rfl rfl rfl rfl rfl rfl [(4, _)] (fun h => And.intro (.inl rfl) (trivial)) (fun h => (OpJ.fieldAddr rfl rfl fd24_1 rfl)) ?_
              refine AQuiet.guard 250 234 rfl rfl rfl rfl rfl rfl rfl [(249, _)] (fun h => And.intro (.inr ⟨_, rfl, h⟩) (trivial)) (fun h => (OpJ.load (v := .p (.int .i64 p.racks)) rfl rfl ty3 rfl)) ?_
              refine AQuiet.guard 251 234 rfl rfl rfl rfl rfl rfl rfl [(248, _), (250, _)] (fun h => And.intro (.inr ⟨_, rfl, h⟩) (And.intro (.inr ⟨_, rfl, h⟩) (trivial))) (fun h => (OpJ.gtr rfl rfl rfl)) ?_
              refine AQuiet.cons 252 rfl rfl rfl (OpJ.or_ rfl rfl rfl ?_) ?_
              · first | (intro h; rw [h]; rfl) | (intro h; simp_all)
              refine AQuiet.nil ?_
              refine AList.nil ?_
              refine AWp.cond _ rfl (fun hc12 => ?_) (fun hc12 => ?_)
              · skip
                exfalso
                have hrk : hgT p o k ≤ p.racks := tr_rack hp (by omega) (fun j hj => hall j (by omega))
                simp only [Bool.or_eq_true, Bool.and_eq_true, decide_eq_true_eq] at hc12
                rcases hc12 with ⟨h1, h2⟩ | h1
                · obtain ⟨j, rfl⟩ : ∃ j, k = j + 1 := ⟨k - 1, by omega⟩
                  have h3 := hr_next hp (o := o) (k := j) (fun q hq => hall q (by omega))
                  rw [Nat.add_sub_cancel] at h2
                  omega
                · omega
              · skip
                refine AWp.skip ?_
                refine AWp.region ?_
                refine AList.c 213 rfl rfl rfl (OpJ.move rfl rfl) ?_
                refine AList.c 214 rfl rfl rfl (OpJ.add rfl rfl rfl (i64ok ?_)) ?_
                · omega
                refine AList.c 26 rfl rfl rfl (OpJ.assign rfl rfl) ?_
                refine AList.nil ?_
                refine ⟨k + 1, ?_, ?_, ?_⟩
                · omega
                · omega
                exact To.sub (Sub.cons rfl (by repeat (first | exact Sub.nil | refine Sub.cons rfl ?_)))
            · skip
              obtain rfl : k = o.length := by have h := of_decide_eq_false hc11; omega
              refine AWp.exit ?_
              refine AWp.seq ?_
              refine AWp.region ?_
              refine AList.c 253 rfl rfl rfl (OpJ.callP (awake_ok) rfl rfl rfl rfl rf10) ?_
              refine AList.c 8 rfl rfl rfl (OpJ.assign rfl rfl) ?_
              refine AList.nil ?_
              refine AWp.ret ?_
              exact Fin.oneE rfl rfl rfl
theorem u16s_of {el : List PV} (h : TyL [.leaf (.int .u16)] el) : ∃ a : { n : Nat // n ≤ 65535 }, el = u2 a.1 := by
  obtain ⟨n, e, h1⟩ := u16_of h
  exact ⟨⟨n, h1⟩, e⟩
theorem bysW_of {x : List PV} (h : TyL [.sl [.leaf (.int .u16)]] x) : ∃ c : List Nat, x = [bysW c] ∧ c.length ≤ bigN ∧ ∀ y ∈ c, y ≤ 65535 := by
  obtain ⟨l, e1, e2⟩ := sl_of (f := fun a : { n : Nat // n ≤ 65535 } => u2 a.1) (fun el => u16s_of) h
  refine ⟨l.map (·.1), ?_, by rw [List.length_map]; exact e2, fun y hy => ?_⟩
  · rw [e1]
    unfold bysW
    rw [List.flatMap_map, List.length_map]
  · obtain ⟨z, _, rfl⟩ := List.mem_map.1 hy
    exact z.2
theorem coatTrue_law {x0 x1 x2 x3 : List PV} (h0 : TyL [.leaf (.int .i64), .leaf (.int .i64), .sl [.sl [.leaf (.int .i64), .leaf (.int .i64)], .leaf (.int .i64)]] x0) (h1 : TyL [.sl [.leaf (.int .u8)]] x1) (h2 : TyL [.sl [.leaf (.int .u16)]] x2) (h3 : TyL [.leaf (.int .u16)] x3) : Pure Try.prog 5 [argP true x0, argP false x1, argP false x2, argP false x3] (.bool true) := by
  obtain ⟨p, rfl, hp⟩ := pnt_of h0
  obtain ⟨l, rfl, hl, hl2⟩ := bys_of h1
  obtain ⟨dry, rfl, hd, hd2⟩ := bysW_of h2
  obtain ⟨n, rfl, hn⟩ := u16_of h3
  by_cases h : (timesR p (ordN p l 9)).2.2 = 0
  · exact lawTrue_P p l hl hl2 dry hd hd2 n hn hp h
  · exact lawTrue_E p l hl hl2 dry hd hd2 n hn hp h
end Go.Proofs.Ytibgdkaipleajaa
end
