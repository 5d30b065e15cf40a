/-
  CoatMore.
-/
import Derived.Test.YtibgdkaipleajaaCuF6
import Derived.Test.YtibgdkaipleajaaCuK
import Derived.Test.YtibgdkaipleajaaCuP6
import Derived.Test.YtibgdkaipleajaaAgD
section
set_option linter.unusedVariables false
set_option maxRecDepth 100000
set_option maxHeartbeats 4000000
set_option linter.unusedSimpArgs false
namespace Go.Proofs.Ytibgdkaipleajaa
open Go.AF
def tmT (r : List Int × Int × Int) : Nat := if r.2.2 = 0 then r.1.length else 0
theorem alen_tm (r : List Int × Int × Int) : alen (.p (tmL r)) = some (tmT r) := by
  unfold tmL tmT
  split <;> rfl
theorem hb_of {q : Pnt} (hp : Ok q) : (q.bs.length ≤ 8) ∧ ∀ b ∈ q.bs, b.dry.length ≤ 14 := by
  have h1 := hp.n
  refine ⟨by omega, fun b hb => ?_⟩
  obtain ⟨i, hi, rfl⟩ := List.getElem_of_mem hb
  have h2 := dry9 hp hi
  rw [cot_get i hi]
  omega
theorem oneSp (l : List Spn) : (((l.flatMap Spn.cells).map V.p).all oneV) = true := by
  simp only [List.all_map, List.all_flatMap, List.all_eq_true]
  intro s _ x hx
  simp [Spn.cells] at hx
  rcases hx with rfl | rfl <;> rfl
theorem late_C {p : Pnt} {o : List Int} (w : Nat) (ho : o.length ≤ 1000) (h0 : (timesR p o).2.2 = 0) : Pure Try.prog 13 [pntV (pL p w), intsV o] (.tuple [intsV (hrs p o o.length), .int .i64 (o.length : Int), .int .i64 0]) := by
  obtain ⟨hT, _, _, _⟩ := times_0 h0
  obtain ⟨h1, h2⟩ := hb_of (lateOk (pnt_ok hT) w)
  have h3 := times_ok (pL p w) o h1 h2 ho
  rw [late_times w h0] at h3
  exact h3
theorem tm_C {p : Pnt} {o : List Int} (w : Nat) (ho : o.length ≤ 1000) (hp : Ok p) {j : Nat} (hj : j < 3) : Pure Try.prog 13 [pntV (ptn (vs3 p w) j), intsV o] (.tuple [tmL (timesR (ptn (vs3 p w) j) o), .int .i64 (timesR (ptn (vs3 p w) j) o).2.1, .int .i64 (timesR (ptn (vs3 p w) j) o).2.2]) := by
  obtain ⟨h1, h2⟩ := hb_of (vs3_dom hp w j hj).ok
  exact times_ok _ o h1 h2 ho
theorem ints_H (p : Pnt) (o : List Int) (ho : o.length ≤ 1000) : Pure Try.prog 17 [intsV (hrs p o o.length), intsV (hrs p o o.length)] (.bool true) := by
  have hl := hrs_len p o o.length
  have h := ints_ok (hrs p o o.length) (hrs p o o.length) (by unfold bigN; omega) (by unfold bigN; omega)
  rwa [decide_eq_true rfl] at h
theorem lawMore_E (p : Pnt) (by_ : List Nat) (w : Nat) (hby : by_.length ≤ bigN) (h255 : ∀ x ∈ by_, x ≤ 255) (hw : w ≤ 255) (hbb : p.bs.length ≤ bigN) (hE : ¬ (timesR p (ordN p by_ 9)).2.2 = 0) : Pure Try.prog 8 [pntV p, bysV by_, .int .u8 (w : Int)] (.bool true) := by
  refine Pure.start (N := 228) Try.func8 rfl rfl (Nat.le_of_ble_eq_true rfl) ?_
  refine AWp.seq ?_
  refine AWp.region ?_
  refine AList.c 3 rfl rfl rfl (OpJ.boxImm rfl rfl rfl) ?_
  refine AList.c 6 rfl rfl rfl (OpJ.assign rfl rfl) ?_
  refine AList.nil ?_
  refine AWp.seq ?_
  refine AWp.seq ?_
  refine AWp.region ?_
  refine AList.c 28 rfl rfl rfl (OpJ.load (v := .p (pntV p)) rfl rfl ty24 rfl) ?_
  refine AList.c 29 rfl rfl rfl (OpJ.callP (large_ok p 9 hbb) rfl rfl rfl rfl rf9) ?_
  refine AList.c 30 rfl rfl rfl (OpJ.move rfl rfl) ?_
  refine AList.g 31 30 rfl rfl rfl rfl rfl rfl rfl [(1, _)] (fun h => And.intro (.inl rfl) (trivial)) (fun h => (OpJ.move rfl rfl)) ?_
  refine AList.g 32 30 rfl rfl rfl rfl rfl rfl rfl [(31, _)] (fun h => And.intro (.inr ⟨_, rfl, h⟩) (trivial)) (fun h => (OpJ.lenSlice rfl rfl sl42 rfl)) ?_
  refine AList.g 33 30 rfl rfl rfl rfl rfl rfl rfl [(32, _)] (fun h => And.intro (.inr ⟨_, rfl, h⟩) (trivial)) (fun h => (OpJ.eql rfl rfl rfl)) ?_
  refine AList.c 34 rfl rfl rfl (OpJ.or_ rfl rfl rfl ?_) ?_
  · first | (intro h; rw [h]; rfl) | (intro h; simp_all)
  refine AList.c 35 rfl rfl rfl (OpJ.move rfl rfl) ?_
  refine AList.g 36 35 rfl rfl rfl rfl rfl rfl rfl [(3, _)] (fun h => And.intro (.inl rfl) (trivial)) (fun h => (OpJ.load (v := .p (pntV p)) rfl rfl ty24 rfl)) ?_
  refine AList.g 37 35 rfl rfl rfl rfl rfl rfl rfl [(36, _)] (fun h => And.intro (.inr ⟨_, rfl, h⟩) (trivial)) (fun h => (OpJ.callP (rPaint_h (by cases e : lrgB p 9 with | false => rfl | true => exact absurd h (by simp [e]))) rfl rfl rfl rfl rf20)) ?_
  refine AList.g 38 35 rfl rfl rfl rfl rfl rfl rfl [(37, _)] (fun h => And.intro (.inr ⟨_, rfl, h⟩) (trivial)) (fun h => (OpJ.not_ rfl rfl)) ?_
  refine AList.c 39 rfl rfl rfl (OpJ.or_ rfl rfl rfl ?_) ?_
  · first | (intro h; rw [h]; rfl) | (intro h; simp_all)
  refine AList.nil ?_
  refine AWp.cond _ rfl (fun hc0 => ?_) (fun hc0 => ?_)
  · skip
    refine AWp.seq ?_
    refine AWp.region ?_
    refine AList.c 40 rfl rfl rfl (OpJ.callP (awake_ok) rfl rfl rfl rfl rf10) ?_
    refine AList.c 6 rfl rfl rfl (OpJ.assign rfl rfl) ?_
    refine AList.nil ?_
    refine AWp.ret ?_
    exact Fin.oneE rfl rfl rfl
  · skip
    have hc : ((lrgB p 9 || decide ((by_.length : Int) = 0)) || !pntB p) = false := hc0
    rw [Bool.or_eq_false_iff, Bool.or_eq_false_iff] at hc
    obtain ⟨⟨hlg, hb0⟩, hT0⟩ := hc
    have hT : pntB p = true := by simpa using hT0
    have hby0 : 0 < by_.length := by have h := of_decide_eq_false hb0; omega
    obtain ⟨hb, hbd, _⟩ := lrg_no hlg
    have hp := pnt_ok hT
    have hn4 := hp.n
    have hd24 := hp.dip
    have hr4 := hp.racks
    have hol := ordN_all hp by_
    have hc9 := hp.all
    have hcp := coats_pos hp
    have hV := ordN_V (show 0 < p.bs.length by omega) by_ 9
    obtain ⟨o, ho⟩ : ∃ o, o = (ordN p by_ 9) := ⟨_, rfl⟩
    have hoc := order_ok p hp by_ hby0 hby h255
    rw [← ho] at hol hV hoc hE
    obtain ⟨i, hi0, he11⟩ := times_11 hT hV (by omega) hE
    refine AWp.skip ?_
    refine AWp.seq ?_
    refine AWp.region ?_
    refine AList.c 41 rfl rfl rfl (OpJ.load (v := .p (pntV p)) rfl rfl ty24 rfl) ?_
    refine AList.c 42 rfl rfl rfl (OpJ.move rfl rfl) ?_
    refine AList.c 43 rfl rfl rfl (OpJ.callP (hoc) rfl rfl rfl rfl rf21) ?_
    refine AList.c 7 rfl rfl rfl (OpJ.assign rfl rfl) ?_
    refine AList.nil ?_
    refine AWp.seq ?_
    refine AWp.region ?_
    refine AList.c 45 rfl rfl rfl (OpJ.load (v := .p (pntV p)) rfl rfl ty24 rfl) ?_
    refine AList.c 46 rfl rfl rfl (OpJ.move rfl rfl) ?_
    refine AList.c 47 rfl rfl rfl (OpJ.callP (times_11C hb hbd (by omega) he11) rfl rfl rfl rfl rf13) ?_
    refine AList.c 44 rfl rfl rfl (OpJ.move rfl rfl) ?_
    refine AList.c 48 rfl rfl rfl (OpJ.extract rfl rfl rfl) ?_
    refine AList.c 49 rfl rfl rfl (OpJ.extract rfl rfl rfl) ?_
    refine AList.c 50 rfl rfl rfl (OpJ.extract rfl rfl rfl) ?_
    refine AList.c 8 rfl rfl rfl (OpJ.assign rfl rfl) ?_
    refine AList.c 9 rfl rfl rfl (OpJ.assign rfl rfl) ?_
    refine AList.c 10 rfl rfl rfl (OpJ.assign rfl rfl) ?_
    refine AList.nil ?_
    refine AWp.seq ?_
    refine AWp.seq ?_
    refine AWp.region ?_
    refine AList.c 51 rfl rfl rfl (OpJ.move rfl rfl) ?_
    refine AList.c 52 rfl rfl rfl (OpJ.neq rfl rfl rfl) ?_
    refine AList.nil ?_
    refine AWp.cond _ rfl (fun hc1 => ?_) (fun hc1 => ?_)
    · skip
      refine AWp.seq ?_
      refine AWp.region ?_
      refine AList.c 53 rfl rfl rfl (OpJ.move rfl rfl) ?_
      refine AList.c 54 rfl rfl rfl (OpJ.lenSlice rfl rfl sl26 rfl) ?_
      refine AList.c 55 rfl rfl rfl (OpJ.eql rfl rfl rfl) ?_
      refine AList.c 56 rfl rfl rfl (OpJ.move rfl rfl) ?_
      refine AList.g 57 56 rfl rfl rfl rfl rfl rfl rfl [(10, _)] (fun h => And.intro (.inl rfl) (trivial)) (fun h => (OpJ.move rfl rfl)) ?_
      refine AList.g 58 56 rfl rfl rfl rfl rfl rfl rfl [(57, _)] (fun h => And.intro (.inr ⟨_, rfl, h⟩) (trivial)) (fun h => (OpJ.eql rfl rfl rfl)) ?_
      refine AList.c 59 rfl rfl rfl (OpJ.and_ rfl rfl rfl ?_) ?_
      · first | (intro h; rw [h]; rfl) | (intro h; simp_all)
      refine AList.c 60 rfl rfl rfl (OpJ.move rfl rfl) ?_
      refine AList.g 61 60 rfl rfl rfl rfl rfl rfl rfl [(9, _)] (fun h => And.intro (.inl rfl) (trivial)) (fun h => (OpJ.move rfl rfl)) ?_
      refine AList.g 62 60 rfl rfl rfl rfl rfl rfl rfl [(7, _)] (fun h => And.intro (.inl rfl) (trivial)) (fun h => (OpJ.move rfl rfl)) ?_
      refine AList.g 63 60 rfl rfl rfl rfl rfl rfl rfl [(62, _)] (fun h => And.intro (.inr ⟨_, rfl, h⟩) (trivial)) (fun h => (OpJ.lenSlice rfl rfl sl26 rfl)) ?_
      refine AList.g 64 60 rfl rfl rfl rfl rfl rfl rfl [(61, _), (63, _)] (fun h => And.intro (.inr ⟨_, rfl, h⟩) (And.intro (.inr ⟨_, rfl, h⟩) (trivial))) (fun h => (OpJ.lss rfl rfl rfl)) ?_
      refine AList.c 65 rfl rfl rfl (OpJ.and_ rfl rfl rfl ?_) ?_
      · first | (intro h; rw [h]; rfl) | (intro h; simp_all)
      refine AList.c 66 rfl rfl rfl (OpJ.move rfl rfl) ?_
      refine AList.g 67 66 rfl rfl rfl rfl rfl rfl rfl [] (fun h => trivial) (fun h => (OpJ.callP (awake_ok) rfl rfl rfl rfl rf10)) ?_
      refine AList.c 68 rfl rfl rfl (OpJ.and_ rfl rfl rfl ?_) ?_
      · first | (intro h; rw [h]; rfl) | (intro h; simp_all)
      refine AList.c 6 rfl rfl rfl (OpJ.assign rfl rfl) ?_
      refine AList.nil ?_
      refine AWp.ret ?_
      refine Fin.oneE rfl rfl ?_
      rw [decide_eq_true (show (i : Int) < (o.length : Int) by omega)]; rfl
    · skip
      cases hc1
theorem lawMore_P (p : Pnt) (by_ : List Nat) (w : Nat) (hby : by_.length ≤ bigN) (h255 : ∀ x ∈ by_, x ≤ 255) (hw : w ≤ 255) (hbb : p.bs.length ≤ bigN) (h0 : (timesR p (ordN p by_ 9)).2.2 = 0) : Pure Try.prog 8 [pntV p, bysV by_, .int .u8 (w : Int)] (.bool true) := by
  refine Pure.start (N := 228) Try.func8 rfl rfl (Nat.le_of_ble_eq_true rfl) ?_
  refine AWp.seq ?_
  refine AWp.region ?_
  refine AList.c 3 rfl rfl rfl (OpJ.boxImm rfl rfl rfl) ?_
  refine AList.c 6 rfl rfl rfl (OpJ.assign rfl rfl) ?_
  refine AList.nil ?_
  refine AWp.seq ?_
  refine AWp.seq ?_
  refine AWp.region ?_
  refine AList.c 28 rfl rfl rfl (OpJ.load (v := .p (pntV p)) rfl rfl ty24 rfl) ?_
  refine AList.c 29 rfl rfl rfl (OpJ.callP (large_ok p 9 hbb) rfl rfl rfl rfl rf9) ?_
  refine AList.c 30 rfl rfl rfl (OpJ.move rfl rfl) ?_
  refine AList.g 31 30 rfl rfl rfl rfl rfl rfl rfl [(1, _)] (fun h => And.intro (.inl rfl) (trivial)) (fun h => (OpJ.move rfl rfl)) ?_
  refine AList.g 32 30 rfl rfl rfl rfl rfl rfl rfl [(31, _)] (fun h => And.intro (.inr ⟨_, rfl, h⟩) (trivial)) (fun h => (OpJ.lenSlice rfl rfl sl42 rfl)) ?_
  refine AList.g 33 30 rfl rfl rfl rfl rfl rfl rfl [(32, _)] (fun h => And.intro (.inr ⟨_, rfl, h⟩) (trivial)) (fun h => (OpJ.eql rfl rfl rfl)) ?_
  refine AList.c 34 rfl rfl rfl (OpJ.or_ rfl rfl rfl ?_) ?_
  · first | (intro h; rw [h]; rfl) | (intro h; simp_all)
  refine AList.c 35 rfl rfl rfl (OpJ.move rfl rfl) ?_
  refine AList.g 36 35 rfl rfl rfl rfl rfl rfl rfl [(3, _)] (fun h => And.intro (.inl rfl) (trivial)) (fun h => (OpJ.load (v := .p (pntV p)) rfl rfl ty24 rfl)) ?_
  refine AList.g 37 35 rfl rfl rfl rfl rfl rfl rfl [(36, _)] (fun h => And.intro (.inr ⟨_, rfl, h⟩) (trivial)) (fun h => (OpJ.callP (rPaint_h (by cases e : lrgB p 9 with | false => rfl | true => exact absurd h (by simp [e]))) rfl rfl rfl rfl rf20)) ?_
  refine AList.g 38 35 rfl rfl rfl rfl rfl rfl rfl [(37, _)] (fun h => And.intro (.inr ⟨_, rfl, h⟩) (trivial)) (fun h => (OpJ.not_ rfl rfl)) ?_
  refine AList.c 39 rfl rfl rfl (OpJ.or_ rfl rfl rfl ?_) ?_
  · first | (intro h; rw [h]; rfl) | (intro h; simp_all)
  refine AList.nil ?_
  refine AWp.cond _ rfl (fun hc0 => ?_) (fun hc0 => ?_)
  · skip
    refine AWp.seq ?_
    refine AWp.region ?_
    refine AList.c 40 rfl rfl rfl (OpJ.callP (awake_ok) rfl rfl rfl rfl rf10) ?_
    refine AList.c 6 rfl rfl rfl (OpJ.assign rfl rfl) ?_
    refine AList.nil ?_
    refine AWp.ret ?_
    exact Fin.oneE rfl rfl rfl
  · skip
    have hc : ((lrgB p 9 || decide ((by_.length : Int) = 0)) || !pntB p) = false := hc0
    rw [Bool.or_eq_false_iff, Bool.or_eq_false_iff] at hc
    obtain ⟨⟨hlg, hb0⟩, hT0⟩ := hc
    have hT : pntB p = true := by simpa using hT0
    have hby0 : 0 < by_.length := by have h := of_decide_eq_false hb0; omega
    obtain ⟨hb, hbd, _⟩ := lrg_no hlg
    have hp := pnt_ok hT
    have hn4 := hp.n
    have hd24 := hp.dip
    have hr4 := hp.racks
    have hol := ordN_all hp by_
    have hc9 := hp.all
    have hcp := coats_pos hp
    have hV := ordN_V (show 0 < p.bs.length by omega) by_ 9
    obtain ⟨o, ho⟩ : ∃ o, o = (ordN p by_ 9) := ⟨_, rfl⟩
    have hoc := order_ok p hp by_ hby0 hby h255
    rw [← ho] at hol hV hoc h0
    have hhl := hrs_len p o o.length
    refine AWp.skip ?_
    refine AWp.seq ?_
    refine AWp.region ?_
    refine AList.c 41 rfl rfl rfl (OpJ.load (v := .p (pntV p)) rfl rfl ty24 rfl) ?_
    refine AList.c 42 rfl rfl rfl (OpJ.move rfl rfl) ?_
    refine AList.c 43 rfl rfl rfl (OpJ.callP (hoc) rfl rfl rfl rfl rf21) ?_
    refine AList.c 7 rfl rfl rfl (OpJ.assign rfl rfl) ?_
    refine AList.nil ?_
    refine AWp.seq ?_
    refine AWp.region ?_
    refine AList.c 45 rfl rfl rfl (OpJ.load (v := .p (pntV p)) rfl rfl ty24 rfl) ?_
    refine AList.c 46 rfl rfl rfl (OpJ.move rfl rfl) ?_
    refine AList.c 47 rfl rfl rfl (OpJ.callP (times_0C hb hbd (by omega) h0) rfl rfl rfl rfl rf13) ?_
    refine AList.c 44 rfl rfl rfl (OpJ.move rfl rfl) ?_
    refine AList.c 48 rfl rfl rfl (OpJ.extract rfl rfl rfl) ?_
    refine AList.c 49 rfl rfl rfl (OpJ.extract rfl rfl rfl) ?_
    refine AList.c 50 rfl rfl rfl (OpJ.extract rfl rfl rfl) ?_
    refine AList.c 8 rfl rfl rfl (OpJ.assign rfl rfl) ?_
    refine AList.c 9 rfl rfl rfl (OpJ.assign rfl rfl) ?_
    refine AList.c 10 rfl rfl rfl (OpJ.assign rfl rfl) ?_
    refine AList.nil ?_
    refine AWp.seq ?_
    refine AWp.seq ?_
    refine AWp.region ?_
    refine AList.c 51 rfl rfl rfl (OpJ.move rfl rfl) ?_
    refine AList.c 52 rfl rfl rfl (OpJ.neq rfl rfl rfl) ?_
    refine AList.nil ?_
    refine AWp.cond _ rfl (fun hc1 => ?_) (fun hc1 => ?_)
    · skip
      cases hc1
    · skip
      refine AWp.skip ?_
      refine AWp.seq ?_
      refine AWp.regionDrawG 11 4 [0, 1, 2, 3] [([], false), ([], false), ([], false), ([], false), ([0], true), ([1], true), ([2], true), ([3], true), ([0], true), ([1], true), ([2], true)] mixed (by kernel_rfl) (by decide) (by kernel_rfl) rfl rfl ?_
      refine AQG.cons 69 rfl rfl rfl (fun _ => (OpJ.load (v := .p (pntV p)) rfl rfl ty24 rfl)) rfl ?_
      refine AQG.cons 70 rfl rfl rfl (fun _ => (OpJ.load (v := .p (pntV p)) rfl rfl ty24 rfl)) rfl ?_
      refine AQG.cons 71 rfl rfl rfl (fun _ => (OpJ.load (v := .p (pntV p)) rfl rfl ty24 rfl)) rfl ?_
      refine AQG.cons 72 rfl rfl rfl (fun _ => (OpJ.load (v := .p (pntV p)) rfl rfl ty24 rfl)) rfl ?_
      refine AQG.lay (v0 := .ptr 4 0) 11 0 rfl rfl rfl rfl rfl rfl rfl rfl (fun _ => (OpJ.allocOwn rfl zr24 rfl)) rfl rfl rfl ?_
      refine AQG.lay (v0 := .ptr 4 0) 12 1 rfl rfl rfl rfl rfl rfl rfl rfl (fun _ => (OpJ.allocOwn rfl zr24 rfl)) rfl rfl rfl ?_
      refine AQG.lay (v0 := .ptr 4 0) 13 2 rfl rfl rfl rfl rfl rfl rfl rfl (fun _ => (OpJ.allocOwn rfl zr24 rfl)) rfl rfl rfl ?_
      refine AQG.lay (v0 := .ptr 4 0) 14 3 rfl rfl rfl rfl rfl rfl rfl rfl (fun _ => (OpJ.allocOwn rfl zr24 rfl)) rfl rfl rfl ?_
      refine AQG.put (blk := .cells ((pntC p).map .p) 24) (v := .top) 0 rfl rfl rfl rfl (fun _ => (OpJ.store rfl rfl rfl rfl rfl ty24 rfl rfl)) rfl rfl ?_
      refine AQG.put (blk := .cells ((pntC p).map .p) 24) (v := .top) 1 rfl rfl rfl rfl (fun _ => (OpJ.store rfl rfl rfl rfl rfl ty24 rfl rfl)) rfl rfl ?_
      refine AQG.put (blk := .cells ((pntC p).map .p) 24) (v := .top) 2 rfl rfl rfl rfl (fun _ => (OpJ.store rfl rfl rfl rfl rfl ty24 rfl rfl)) rfl rfl ?_
      refine AQG.nil ?_
      refine AList.c0 rfl rfl (OpJ.store rfl rfl rfl rfl rfl ty24 rfl rfl) ?_
      refine AList.nil ?_
      refine AWp.seq ?_
      refine AWp.region ?_
      refine AList.c 73 rfl rfl rfl (OpJ.fieldAddr rfl rfl fd24_1 rfl) ?_
      refine AList.c 74 rfl rfl rfl (OpJ.load (v := .p (.int .i64 p.racks)) rfl rfl ty3 rfl) ?_
      refine AList.c 75 rfl rfl rfl (OpJ.add rfl rfl rfl (i64ok ?_)) ?_
      · omega
      refine AList.c 76 rfl rfl rfl (OpJ.min2 rfl rfl rfl) ?_
      refine AList.c 77 rfl rfl rfl (OpJ.fieldAddr rfl rfl fd24_1 rfl) ?_
      refine AList.c0 rfl rfl (OpJ.store (H' := [.cells ((pntC (pR p)).map .p) 24, .cells ((pntC p).map .p) 24, .cells ((pntC p).map .p) 24, .cells ((pntC p).map .p) 24]) rfl rfl rfl rfl rfl ty3 rfl rfl) ?_
      refine AList.nil ?_
      refine AWp.seq ?_
      refine AWp.region ?_
      refine AList.c 78 rfl rfl rfl (OpJ.fieldAddr rfl rfl fd24_0 rfl) ?_
      refine AList.c 79 rfl rfl rfl (OpJ.load (v := .p (.int .i64 p.dip)) rfl rfl ty3 rfl) ?_
      refine AList.c 80 rfl rfl rfl (OpJ.move rfl rfl) ?_
      refine AList.c 81 rfl rfl rfl (OpJ.convInt rfl rfl (by rw [un5]; rfl) un3 (i64ok ?_)) ?_
      · omega
      refine AList.c 82 rfl rfl rfl (OpJ.rem (m := ((w % 4 : Nat) : Int)) rfl rfl rfl ?_ ?_) ?_
      · decide
      · exact tmodN w 4
      refine AList.c 83 rfl rfl rfl (OpJ.sub_ rfl rfl rfl (i64ok ?_)) ?_
      · omega
      refine AList.c 84 rfl rfl rfl (OpJ.max2 rfl rfl rfl) ?_
      refine AList.c 85 rfl rfl rfl (OpJ.fieldAddr rfl rfl fd24_0 rfl) ?_
      refine AList.c0 rfl rfl (OpJ.store (H' := [.cells ((pntC (pR p)).map .p) 24, .cells ((pntC (pS p w)).map .p) 24, .cells ((pntC p).map .p) 24, .cells ((pntC p).map .p) 24]) rfl rfl rfl rfl rfl ty3 rfl rfl) ?_
      refine AList.nil ?_
      refine AWp.seq ?_
      refine AWp.region ?_
      refine AList.c 86 rfl rfl rfl (OpJ.fieldAddr rfl rfl fd24_2 rfl) ?_
      refine AList.c0 rfl rfl (OpJ.store (H' := [.cells ((pntC (pR p)).map .p) 24, .cells ((pntC (pS p w)).map .p) 24, .cells [.p (.int .i64 p.dip), .p (.int .i64 p.racks), .p .nilSlice] 24, .cells ((pntC p).map .p) 24]) rfl rfl rfl rfl rfl ty22 rfl rfl) ?_
      refine AList.c 87 rfl rfl rfl (OpJ.fieldAddr rfl rfl fd24_2 rfl) ?_
      refine AList.c0 rfl rfl (OpJ.store (H' := [.cells ((pntC (pR p)).map .p) 24, .cells ((pntC (pS p w)).map .p) 24, .cells [.p (.int .i64 p.dip), .p (.int .i64 p.racks), .p .nilSlice] 24, .cells [.p (.int .i64 p.dip), .p (.int .i64 p.racks), .p .nilSlice] 24]) rfl rfl rfl rfl rfl ty22 rfl rfl) ?_
      refine AList.nil ?_
      refine AWp.seq ?_
      refine AWp.seq ?_
      refine AWp.to (To.pad.trans To.pad) ?_
      refine AWp.region ?_
      refine AList.c 15 rfl rfl rfl (OpJ.assign rfl rfl) ?_
      refine AList.nil ?_
      refine AWp.block ?_
      refine AWp.loopHL [2, 3, 7, 8, 9, 11, 12, 13, 14, 20, 21, 22, 23, 24, 25, 26, 27, 152, 153, 154, 155, 156, 157, 158, 159, 160, 161, 162, 163, 164, 165, 166, 167, 168, 169, 170, 171, 172, 173, 174, 175, 176, 177, 178, 179, 180, 181, 182, 183, 184, 185, 186, 187, 188, 189, 190, 191, 192, 193, 194, 195, 196, 197, 198, 199, 200, 201, 202, 203, 204, 205, 206, 207, 208, 209, 210, 211, 212, 213, 214, 215, 216, 217, 218, 219, 220, 221, 222, 223, 224, 225, 226, 227] (fun g => [(15, .p (.int .i64 ((g : Nat) : Int)))]) (fun g => [.cells ((pntC (pR p)).map .p) 24, .cells ((pntC (pS p w)).map .p) 24, .cells [.p (.int .i64 p.dip), .p (.int .i64 p.racks), accV 4 g] 24, .cells [.p (.int .i64 p.dip), .p (.int .i64 p.racks), accV 5 g] 24, accB (((fastL p w g).flatMap Cot.cells).map .p) 52 g, accB (((lateL p w g).flatMap Cot.cells).map .p) 52 g]) (fun g => g ≤ p.bs.length) (fun g => p.bs.length - g) 0 (Nat.zero_le _) (To.sub (Sub.chk (Sub.cons rfl (Sub.nil)))) (fun i hg => ?_)
      refine AWp.seq ?_
      refine AWp.seq ?_
      refine AWp.region ?_
      refine AList.c 88 rfl rfl rfl (OpJ.move rfl rfl) ?_
      refine AList.c 89 rfl rfl rfl (OpJ.fieldAddr rfl rfl fd24_2 rfl) ?_
      refine AList.c 90 rfl rfl rfl (OpJ.load (v := .p (cotsV p.bs)) rfl rfl ty22 rfl) ?_
      refine AList.c 91 rfl rfl rfl (OpJ.lenSlice rfl rfl sl22 rfl) ?_
      refine AList.c 92 rfl rfl rfl (OpJ.lss rfl rfl rfl) ?_
      refine AList.nil ?_
      refine AWp.cond _ rfl (fun hc2 => ?_) (fun hc2 => ?_)
      · skip
        have hi0 : i < p.bs.length := by have h := of_decide_eq_true hc2; omega
        have hlt := hp.late _ (cot_mem hi0)
        have hd9 := dry9 hp hi0
        have hd1 := hp.some _ (cot_mem hi0)
        refine AWp.skip ?_
        refine AWp.seq ?_
        refine AWp.block ?_
        refine AWp.seq ?_
        refine AWp.region ?_
        refine AList.c 95 rfl rfl rfl (OpJ.fieldAddr rfl rfl fd24_2 rfl) ?_
        refine AList.c 96 rfl rfl rfl (OpJ.load (v := .p (cotsV p.bs)) rfl rfl ty22 rfl) ?_
        refine AList.c 97 rfl rfl rfl (OpJ.move rfl rfl) ?_
        refine AList.c 98 rfl rfl rfl (OpJ.indexG (g := cot p.bs) cot_get rfl rfl rfl sl22 el22 rfl (fun _ => rfl) (by decide) hi0) ?_
        refine AList.c 99 rfl rfl rfl (OpJ.load (v := .p (.agg (cot p.bs i).cells)) rfl rfl ty52 rfl) ?_
        refine AList.c 16 rfl rfl rfl (OpJ.allocOwn rfl zr52 rfl) ?_
        refine AList.c0 rfl rfl (OpJ.store (H' := [.cells ((pntC (pR p)).map .p) 24, .cells ((pntC (pS p w)).map .p) 24, .cells [.p (.int .i64 p.dip), .p (.int .i64 p.racks), accV 4 i] 24, .cells [.p (.int .i64 p.dip), .p (.int .i64 p.racks), accV 5 i] 24, accB (((fastL p w i).flatMap Cot.cells).map .p) 52 i, accB (((lateL p w i).flatMap Cot.cells).map .p) 52 i, .cells ((cot p.bs i).cells.map .p) 52]) rfl rfl rfl rfl rfl ty52 rfl rfl) ?_
        refine AList.nil ?_
        refine AWp.seq ?_
        refine AWp.freeze 6 rfl rfl ?_
        refine AWp.region ?_
        refine AList.c 100 rfl rfl rfl (OpJ.fieldAddr rfl rfl fd24_2 rfl) ?_
        refine AList.c 101 rfl rfl rfl (OpJ.loadCell (k := 2) (v := (accV 5 i)) rfl rfl ty22 rfl rfl rfl) ?_
        refine AList.c 102 rfl rfl rfl (OpJ.fieldAddr rfl rfl fd52_0 rfl) ?_
        refine AList.c 103 rfl rfl rfl (OpJ.load (v := .p (spnsV (cot p.bs i).dry)) rfl rfl ty50 rfl) ?_
        refine AList.c 104 rfl rfl rfl (OpJ.fieldAddr rfl rfl fd52_1 rfl) ?_
        refine AList.c 105 rfl rfl rfl (OpJ.load (v := .p (.int .i64 (cot p.bs i).late)) rfl rfl ty3 rfl) ?_
        refine AList.c 106 rfl rfl rfl (OpJ.move rfl rfl) ?_
        refine AList.c 107 rfl rfl rfl (OpJ.convInt rfl rfl (by rw [un5]; rfl) un3 (i64ok ?_)) ?_
        · omega
        refine AList.c 108 rfl rfl rfl (OpJ.add rfl rfl rfl (i64ok ?_)) ?_
        · omega
        refine AList.c 109 rfl rfl rfl (OpJ.min2 rfl rfl rfl) ?_
        refine AList.c 110 rfl rfl rfl (OpJ.buildR (v := .p (.agg (lateB w (cot p.bs i)).cells)) rfl bd52 rfl rfl rfl) ?_
        refine AList.c 111 rfl rfl rfl (OpJ.buildImm rfl slz22 (by decide) rfl rfl rfl) ?_
        refine AList.c 112 rfl rfl rfl (OpJ.appendAcc rfl rfl rfl slz22 sl22 rfl ?_ rfl (by decide) rfl by52 (by decide) ?_) ?_
        · rw [List.length_map, flat_len (c := 2) (fun _ => rfl), lateL_len p w (by omega)]; rfl
        · omega
        refine AList.c 113 rfl rfl rfl (OpJ.fieldAddr rfl rfl fd24_2 rfl) ?_
        refine AList.c0 rfl rfl (OpJ.store rfl rfl rfl rfl rfl ty22 rfl rfl) ?_
        refine AList.nil ?_
        refine AWp.seq ?_
        refine AWp.region ?_
        refine AList.c 114 rfl rfl rfl (OpJ.buildOwn rfl slz50 (by decide) rfl rfl) ?_
        refine AList.c 115 rfl rfl rfl (OpJ.fieldAddr rfl rfl fd52_0 rfl) ?_
        refine AList.c 116 rfl rfl rfl (OpJ.load (v := .p (spnsV (cot p.bs i).dry)) rfl rfl ty50 rfl) ?_
        refine AList.c 117 rfl rfl rfl (OpJ.appendRow (i := 8) (len := 0) (cs := []) rfl rfl rfl slz50 sl50 rfl ?_ (asrc_is (flat_len (c := 2) (fun _ => rfl) _)) (oneSp _) by35 (by decide) ?_) ?_
        · rfl
        · show (2 * (0 + (cot p.bs i).dry.length) + 192) * 16 ≤ 281474976710656; omega
        refine AList.c 17 rfl rfl rfl (OpJ.assign rfl rfl) ?_
        refine AList.nil ?_
        refine AWp.seq ?_
        refine AWp.seq ?_
        rw [Nat.zero_add (cot p.bs i).dry.length, List.nil_append]
        refine AWp.norm [0, 1, 2, 3, 4, 7, 9] [(2, _), (3, _), (7, _), (8, _), (9, _), (11, _), (12, _), (13, _), (14, _), (15, _), (16, _), (17, .row 6 (cot p.bs i).dry.length)] [.cells ((pntC (pR p)).map .p) 24, .cells ((pntC (pS p w)).map .p) 24, .cells [.p (.int .i64 p.dip), .p (.int .i64 p.racks), accV 4 i] 24, .cells [.p (.int .i64 p.dip), .p (.int .i64 p.racks), accV 5 (i + 1)] 24, accB (((fastL p w i).flatMap Cot.cells).map .p) 52 i, accB (((lateL p w (i + 1)).flatMap Cot.cells).map .p) 52 (i + 1), .row (((fstK w (cot p.bs i).dry 0).flatMap Spn.cells).map .p) 35] rfl (Sub.cons rfl (Sub.cons rfl (Sub.cons rfl (Sub.cons rfl (Sub.cons rfl (Sub.cons rfl (Sub.cons rfl (Sub.cons rfl (Sub.cons rfl (Sub.cons rfl (Sub.cons rfl (Sub.cons rfl (Sub.nil))))))))))))) (by show [Blk.cells (renL _ (List.map V.p _)) _, Blk.cells (renL _ (List.map V.p _)) _, Blk.cells [V.p _, V.p _, renV _ (accV 4 _)] _, Blk.cells [V.p _, V.p _, V.row 5 _] _, renB _ (accB (List.map V.p _) _ _), Blk.row (renL _ (List.map V.p _ ++ List.map V.p _)) _, Blk.row (renL _ (List.map V.p _)) _] = _; rw [renL_pure, renL_pure, accV_ren (σ := pl [0, 1, 2, 3, 4, 7, 9]) (i := 4) (j := 4) rfl, accB_ren, renL_app, renL_pure, renL_pure, renL_pure, lateL_S p w hi0, List.flatMap_append, List.map_append]; rfl) ?_
        refine AWp.region ?_
        refine AList.c 18 rfl rfl rfl (OpJ.assign rfl rfl) ?_
        refine AList.nil ?_
        refine AWp.block ?_
        refine AWp.loopHL [2, 3, 7, 8, 9, 11, 12, 13, 14, 15, 16, 17, 20, 21, 22, 23, 24, 25, 26, 27, 88, 89, 90, 91, 92, 93, 94, 95, 96, 97, 98, 99, 100, 101, 102, 103, 104, 105, 106, 107, 108, 109, 110, 111, 112, 113, 114, 115, 116, 117, 143, 144, 145, 146, 147, 148, 149, 150, 151, 152, 153, 154, 155, 156, 157, 158, 159, 160, 161, 162, 163, 164, 165, 166, 167, 168, 169, 170, 171, 172, 173, 174, 175, 176, 177, 178, 179, 180, 181, 182, 183, 184, 185, 186, 187, 188, 189, 190, 191, 192, 193, 194, 195, 196, 197, 198, 199, 200, 201, 202, 203, 204, 205, 206, 207, 208, 209, 210, 211, 212, 213, 214, 215, 216, 217, 218, 219, 220, 221, 222, 223, 224, 225, 226, 227] (fun g => [(18, .p (.int .i64 ((g : Nat) : Int)))]) (fun g => [.cells ((pntC (pR p)).map .p) 24, .cells ((pntC (pS p w)).map .p) 24, .cells [.p (.int .i64 p.dip), .p (.int .i64 p.racks), accV 4 i] 24, .cells [.p (.int .i64 p.dip), .p (.int .i64 p.racks), accV 5 (i + 1)] 24, accB (((fastL p w i).flatMap Cot.cells).map .p) 52 i, accB (((lateL p w (i + 1)).flatMap Cot.cells).map .p) 52 (i + 1), .row (((fstK w (cot p.bs i).dry g).flatMap Spn.cells).map .p) 35]) (fun g => g ≤ (cot p.bs i).dry.length) (fun g => (cot p.bs i).dry.length - g) 0 (Nat.zero_le _) (To.sub (Sub.chk (Sub.cons rfl (Sub.nil)))) (fun k hg => ?_)
        refine AWp.seq ?_
        refine AWp.seq ?_
        refine AWp.region ?_
        refine AList.c 118 rfl rfl rfl (OpJ.move rfl rfl) ?_
        refine AList.c 119 rfl rfl rfl (OpJ.move rfl rfl) ?_
        refine AList.c 120 rfl rfl rfl (OpJ.lenSlice rfl rfl sl50 rfl) ?_
        refine AList.c 121 rfl rfl rfl (OpJ.lss rfl rfl rfl) ?_
        refine AList.nil ?_
        refine AWp.cond _ rfl (fun hc3 => ?_) (fun hc3 => ?_)
        · skip
          have hk0 : k < (cot p.bs i).dry.length := by have h := of_decide_eq_true hc3; omega
          have hsb := hp.dry _ (cot_mem hi0) _ (spt_mem hk0)
          have hfs := fstK_set w hk0
          refine AWp.skip ?_
          refine AWp.seq ?_
          refine AWp.block ?_
          refine AWp.regionDraw 19 mixed (by kernel_rfl) (by decide) ?_
          refine AQuiet.cons 124 rfl rfl rfl (OpJ.move rfl rfl) ?_
          refine AQuiet.cons 125 rfl rfl rfl (OpJ.move rfl rfl) ?_
          refine AQuiet.cons 126 rfl rfl rfl (OpJ.move rfl rfl) ?_
          refine AQuiet.cons 127 rfl rfl rfl (OpJ.move rfl rfl) ?_
          refine AQuiet.cons 128 rfl rfl rfl (OpJ.indexRow rfl rfl rfl sl50 el50 hk0) ?_
          refine AQuiet.cons 129 rfl rfl rfl (OpJ.fieldAddr rfl rfl fd35_0 rfl) ?_
          refine AQuiet.cons 130 rfl rfl rfl (OpJ.loadFlat (f := Spn.cells) (c := 2) (k := k) (j := 0) (xs := (fstK w (cot p.bs i).dry k)) rfl rfl ty3 rfl rfl (by omega) (fun _ => rfl) (by rw [fstK_len]; exact hk0) (by decide) (show _ = PV.int .i64 (spt (cot p.bs i).dry k).lo from by rw [spt_get _ (by rw [fstK_len]; exact hk0), fstK_at w hk0]; rfl)) ?_
          refine AQuiet.cons 131 rfl rfl rfl (OpJ.move rfl rfl) ?_
          refine AQuiet.cons 132 rfl rfl rfl (OpJ.move rfl rfl) ?_
          refine AQuiet.cons 133 rfl rfl rfl (OpJ.indexRow rfl rfl rfl sl50 el50 hk0) ?_
          refine AQuiet.cons 134 rfl rfl rfl (OpJ.fieldAddr rfl rfl fd35_1 rfl) ?_
          refine AQuiet.cons 135 rfl rfl rfl (OpJ.loadFlat (f := Spn.cells) (c := 2) (k := k) (j := 1) (xs := (fstK w (cot p.bs i).dry k)) rfl rfl ty3 rfl rfl (by omega) (fun _ => rfl) (by rw [fstK_len]; exact hk0) (by decide) (show _ = PV.int .i64 (spt (cot p.bs i).dry k).hi from by rw [spt_get _ (by rw [fstK_len]; exact hk0), fstK_at w hk0]; rfl)) ?_
          refine AQuiet.cons 136 rfl rfl rfl (OpJ.move rfl rfl) ?_
          refine AQuiet.cons 137 rfl rfl rfl (OpJ.convInt rfl rfl (by rw [un5]; rfl) un3 (i64ok ?_)) ?_
          · omega
          refine AQuiet.cons 138 rfl rfl rfl (OpJ.rem (m := ((w % 9 : Nat) : Int)) rfl rfl rfl ?_ ?_) ?_
          · decide
          · exact tmodN w 9
          refine AQuiet.cons 139 rfl rfl rfl (OpJ.sub_ rfl rfl rfl (i64ok ?_)) ?_
          · omega
          refine AQuiet.cons 140 rfl rfl rfl (OpJ.max2 rfl rfl rfl) ?_
          refine AQuiet.cons 141 rfl rfl rfl (OpJ.indexRow rfl rfl rfl sl50 el50 hk0) ?_
          refine AQuiet.cons 142 rfl rfl rfl (OpJ.fieldAddr rfl rfl fd35_1 rfl) ?_
          refine AQuiet.nil ?_
          refine AList.c0 rfl rfl (OpJ.storeRow (f := Spn.cells) (c := 2) (k := k) (j := 1) (xs := (fstK w (cot p.bs i).dry k)) (z := (fastS w (spt (cot p.bs i).dry k))) (ws := [_]) rfl rfl rfl rfl rfl ty3 rfl rfl rfl (by omega) (fun _ => rfl) (by rw [fstK_len]; exact hk0) (Nat.le_refl _) (by rw [spt_get _ (by rw [fstK_len]; exact hk0), fstK_at w hk0]; rfl)) ?_
          refine AList.nil ?_
          refine AWp.region ?_
          refine AList.c 122 rfl rfl rfl (OpJ.move rfl rfl) ?_
          refine AList.c 123 rfl rfl rfl (OpJ.add rfl rfl rfl (i64ok ?_)) ?_
          · omega
          refine AList.c 18 rfl rfl rfl (OpJ.assign rfl rfl) ?_
          refine AList.nil ?_
          refine ⟨k + 1, ?_, ?_, ?_⟩
          · omega
          · omega
          rw [hfs]
          exact To.sub (Sub.cons rfl (by repeat (first | exact Sub.nil | refine Sub.cons rfl ?_)))
        · skip
          obtain rfl : k = (cot p.bs i).dry.length := by have h := of_decide_eq_false hc3; omega
          refine AWp.exit ?_
          rw [fstK_n]
          refine AWp.freeze 6 rfl (allP_map _) ?_
          refine AWp.norm [0, 1, 2, 3, 4, 5] [(2, _), (3, _), (7, _), (8, _), (9, _), (11, _), (12, _), (13, _), (14, _), (15, _), (16, _), (17, .p (spnsV ((cot p.bs i).dry.map (fastS w))))] [.cells ((pntC (pR p)).map .p) 24, .cells ((pntC (pS p w)).map .p) 24, .cells [.p (.int .i64 p.dip), .p (.int .i64 p.racks), accV 4 i] 24, .cells [.p (.int .i64 p.dip), .p (.int .i64 p.racks), accV 5 (i + 1)] 24, accB (((fastL p w i).flatMap Cot.cells).map .p) 52 i, accB (((lateL p w (i + 1)).flatMap Cot.cells).map .p) 52 (i + 1)] rfl (Sub.cons rfl (Sub.cons rfl (Sub.cons rfl (Sub.cons rfl (Sub.cons rfl (Sub.cons rfl (Sub.cons rfl (Sub.cons rfl (Sub.cons rfl (Sub.cons rfl (Sub.cons rfl ((Sub.cons (by show some (V.p (PV.is _ _)) = some (V.p (spnsV _)); unfold spnsV; rw [List.length_map]) Sub.nil))))))))))))) (by show [Blk.cells (renL _ (List.map V.p _)) _, Blk.cells (renL _ (List.map V.p _)) _, Blk.cells [V.p _, V.p _, renV _ (accV 4 _)] _, Blk.cells [V.p _, V.p _, V.row 5 _] _, renB _ (accB (List.map V.p _) _ _), Blk.row (renL _ (List.map V.p _)) _] = _; rw [renL_pure, renL_pure, accV_ren (σ := pl [0, 1, 2, 3, 4, 5]) (i := 4) (j := 4) rfl, accB_ren, renL_pure]; rfl) ?_
          refine AWp.region ?_
          refine AList.c 143 rfl rfl rfl (OpJ.fieldAddr rfl rfl fd24_2 rfl) ?_
          refine AList.c 144 rfl rfl rfl (OpJ.loadCell (k := 2) (v := (accV 4 i)) rfl rfl ty22 rfl rfl rfl) ?_
          refine AList.c 145 rfl rfl rfl (OpJ.move rfl rfl) ?_
          refine AList.c 146 rfl rfl rfl (OpJ.fieldAddr rfl rfl fd52_1 rfl) ?_
          refine AList.c 147 rfl rfl rfl (OpJ.load (v := .p (.int .i64 (cot p.bs i).late)) rfl rfl ty3 rfl) ?_
          refine AList.c 148 rfl rfl rfl (OpJ.buildR (v := .p (.agg (fastB w (cot p.bs i)).cells)) rfl bd52 rfl rfl rfl) ?_
          refine AList.c 149 rfl rfl rfl (OpJ.buildImm rfl slz22 (by decide) rfl rfl rfl) ?_
          refine AList.c 150 rfl rfl rfl (OpJ.appendAcc rfl rfl rfl slz22 sl22 rfl ?_ rfl (by decide) rfl by52 (by decide) ?_) ?_
          · rw [List.length_map, flat_len (c := 2) (fun _ => rfl), fastL_len p w (by omega)]; rfl
          · omega
          refine AList.c 151 rfl rfl rfl (OpJ.fieldAddr rfl rfl fd24_2 rfl) ?_
          refine AList.c0 rfl rfl (OpJ.store rfl rfl rfl rfl rfl ty22 rfl rfl) ?_
          refine AList.nil ?_
          refine AWp.region ?_
          refine AList.c 93 rfl rfl rfl (OpJ.move rfl rfl) ?_
          refine AList.c 94 rfl rfl rfl (OpJ.add rfl rfl rfl (i64ok ?_)) ?_
          · omega
          refine AList.c 15 rfl rfl rfl (OpJ.assign rfl rfl) ?_
          refine AList.nil ?_
          refine ⟨i + 1, ?_, ?_, ?_⟩
          · omega
          · omega
          refine To.done [0, 1, 2, 3, 6, 5] rfl (Sub.cons rfl (by repeat (first | exact Sub.nil | refine Sub.cons rfl ?_))) (by show [Blk.cells (renL _ (List.map V.p _)) _, Blk.cells (renL _ (List.map V.p _)) _, Blk.cells [V.p _, V.p _, V.row 4 _] _, Blk.cells [V.p _, V.p _, V.row 5 _] _, Blk.row (renL _ (List.map V.p _ ++ List.map V.p _)) _, Blk.row (renL _ (List.map V.p _)) _] = _; rw [renL_pure, renL_pure, renL_app, renL_pure, renL_pure, renL_pure, fastL_S p w hi0, List.flatMap_append, List.map_append]; rfl)
      · skip
        obtain rfl : i = p.bs.length := by have h := of_decide_eq_false hc2; omega
        refine AWp.exit ?_
        refine AWp.seq ?_
        refine AWp.seq ?_
        refine AWp.to (To.accC 4 2 (xs := (fastL p w p.bs.length).flatMap Cot.cells) (n := p.bs.length) (a := [.int .i64 p.dip, .int .i64 p.racks]) (b := []) [(2, _), (3, _), (7, _), (8, _), (9, _), (11, .ptr 0 0), (12, .ptr 1 0), (13, .ptr 2 0), (14, .ptr 3 0)] (by decide) rfl rfl (fun h => by omega) rfl rfl (Sub.cons rfl (Sub.cons rfl (Sub.cons rfl (Sub.cons rfl (Sub.cons rfl (Sub.cons rfl (Sub.cons rfl (Sub.cons rfl (Sub.cons rfl (Sub.nil)))))))))) (Sub.cons rfl (Sub.cons rfl (Sub.cons rfl (Sub.cons rfl (Sub.cons rfl (Sub.cons rfl (Sub.cons rfl (Sub.cons rfl (Sub.cons rfl (Sub.nil))))))))))) ?_
        refine AWp.to (To.accC 5 3 (xs := (lateL p w p.bs.length).flatMap Cot.cells) (n := p.bs.length) (a := [.int .i64 p.dip, .int .i64 p.racks]) (b := []) [(2, _), (3, _), (7, _), (8, _), (9, _), (11, .ptr 0 0), (12, .ptr 1 0), (13, .ptr 2 0), (14, .ptr 3 0)] (by decide) rfl rfl (fun h => by omega) rfl rfl (Sub.cons rfl (Sub.cons rfl (Sub.cons rfl (Sub.cons rfl (Sub.cons rfl (Sub.cons rfl (Sub.cons rfl (Sub.cons rfl (Sub.cons rfl (Sub.nil)))))))))) (Sub.cons rfl (Sub.cons rfl (Sub.cons rfl (Sub.cons rfl (Sub.cons rfl (Sub.cons rfl (Sub.cons rfl (Sub.cons rfl (Sub.cons rfl (Sub.nil))))))))))) ?_
        refine AWp.norm [0, 1, 2, 3] [(3, _), (7, _), (8, _), (9, _), (11, .ptr 0 0), (12, .ptr 1 0), (13, .ptr 2 0), (14, .ptr 3 0)] [.cells ((pntC (pR p)).map .p) 24, .cells ((pntC (pS p w)).map .p) 24, .cells ((pntC (pF p w)).map .p) 24, .cells ((pntC (pL p w)).map .p) 24] rfl (Sub.cons rfl (Sub.cons rfl (Sub.cons rfl (Sub.cons rfl (Sub.cons rfl (Sub.cons rfl (Sub.cons rfl (Sub.cons rfl (Sub.nil))))))))) (by show [Blk.cells (renL _ (List.map V.p _)) _, Blk.cells (renL _ (List.map V.p _)) _, Blk.cells [V.p _, V.p _, V.p _] _, Blk.cells [V.p _, V.p _, V.p _] _] = _; rw [renL_pure, renL_pure, fastL_n, lateL_n]; unfold pntC pF pL cotsV; rw [List.length_map, List.length_map]; rfl) ?_
        refine AWp.region ?_
        refine AList.c 152 rfl rfl rfl (OpJ.load (v := .p (pntV (pR p))) rfl rfl ty24 rfl) ?_
        refine AList.c 153 rfl rfl rfl (OpJ.load (v := .p (pntV (pS p w))) rfl rfl ty24 rfl) ?_
        refine AList.c 154 rfl rfl rfl (OpJ.load (v := .p (pntV (pF p w))) rfl rfl ty24 rfl) ?_
        refine AList.c 155 rfl rfl rfl (OpJ.buildWh (xs := (vs3 p w).flatMap pntC) [pntC (pR p), pntC (pS p w), pntC (pF p w)] rfl slz58 (by decide) rfl rfl rfl rfl rfl) ?_
        refine AList.c 156 rfl rfl rfl (OpJ.lenSlice rfl rfl sl58 rfl) ?_
        refine AList.c 157 rfl rfl rfl (OpJ.move rfl rfl) ?_
        refine AList.nil ?_
        refine AWp.block ?_
        refine AWp.norm [3] [(3, _), (7, _), (8, _), (9, _), (14, .ptr 0 0), (155, _), (156, _), (157, _)] [.cells ((pntC (pL p w)).map .p) 24] rfl (Sub.cons rfl (Sub.cons rfl (Sub.cons rfl (Sub.cons rfl (Sub.cons rfl (Sub.cons rfl (Sub.cons rfl (Sub.cons rfl (Sub.nil))))))))) (by show [Blk.cells (renL _ (List.map V.p _)) _] = _; rw [renL_pure]) ?_
        refine AWp.loopHL [7, 8, 9, 14, 25, 26, 27, 155, 156, 206, 207, 208, 209, 210, 211, 212, 213, 214, 215, 216, 217, 218, 219, 220, 221, 222, 223, 224, 225, 226, 227] (fun g => [(157, .p (.int .i64 ((g : Nat) : Int)))]) (fun g => [.cells ((pntC (pL p w)).map .p) 24]) (fun g => g ≤ 3) (fun g => 3 - g) 0 (Nat.zero_le _) (To.sub (Sub.chk (Sub.cons rfl (Sub.nil)))) (fun j hg => ?_)
        refine AWp.seq ?_
        refine AWp.region ?_
        refine AList.c 158 rfl rfl rfl (OpJ.lss rfl rfl rfl) ?_
        refine AList.nil ?_
        refine AWp.seq ?_
        refine AWp.cond _ rfl (fun hc4 => ?_) (fun hc4 => ?_)
        · skip
          have hj3 : j < 3 := by have h := of_decide_eq_true hc4; omega
          have hdt := dom_times (vs3_dom hp w j hj3) h0 hV
          refine AWp.skip ?_
          refine AWp.seq ?_
          refine AWp.block ?_
          refine AWp.seq ?_
          refine AWp.region ?_
          refine AList.c 159 rfl rfl rfl (OpJ.indexG (g := ptn (vs3 p w)) ptn_get rfl rfl rfl sl58 el58 rfl (fun _ => rfl) (by decide) hj3) ?_
          refine AList.c 160 rfl rfl rfl (OpJ.load (v := .p (pntV (ptn (vs3 p w) j))) rfl rfl ty24 rfl) ?_
          refine AList.c 20 rfl rfl rfl (OpJ.allocOwn rfl zr24 rfl) ?_
          refine AList.c0 rfl rfl (OpJ.store (H' := [.cells ((pntC (pL p w)).map .p) 24, .cells ((pntC (ptn (vs3 p w) j)).map .p) 24]) rfl rfl rfl rfl rfl ty24 rfl rfl) ?_
          refine AList.nil ?_
          refine AWp.seq ?_
          refine AWp.region ?_
          refine AList.c 162 rfl rfl rfl (OpJ.load (v := .p (pntV (ptn (vs3 p w) j))) rfl rfl ty24 rfl) ?_
          refine AList.c 163 rfl rfl rfl (OpJ.move rfl rfl) ?_
          refine AList.c 164 rfl rfl rfl (OpJ.callP (tm_C w (by omega) hp hj3) rfl rfl rfl rfl rf13) ?_
          refine AList.c 161 rfl rfl rfl (OpJ.move rfl rfl) ?_
          refine AList.c 165 rfl rfl rfl (OpJ.extract rfl rfl rfl) ?_
          refine AList.c 166 rfl rfl rfl (OpJ.extract rfl rfl rfl) ?_
          refine AList.c 167 rfl rfl rfl (OpJ.extract rfl rfl rfl) ?_
          refine AList.c 21 rfl rfl rfl (OpJ.assign rfl rfl) ?_
          refine AList.c 22 rfl rfl rfl (OpJ.assign rfl rfl) ?_
          refine AList.c 23 rfl rfl rfl (OpJ.assign rfl rfl) ?_
          refine AList.nil ?_
          refine AWp.seq ?_
          refine AWp.seq ?_
          refine AWp.norm [0] [(7, _), (8, _), (9, _), (14, _), (21, _), (22, _), (23, _), (155, _), (156, _), (157, _)] [.cells ((pntC (pL p w)).map .p) 24] rfl (Sub.cons rfl (Sub.cons rfl (Sub.cons rfl (Sub.cons rfl (Sub.cons rfl (Sub.cons rfl (Sub.cons rfl (Sub.cons rfl (Sub.cons rfl (Sub.cons rfl (Sub.nil))))))))))) (by show [Blk.cells (renL _ (List.map V.p _)) _] = _; rw [renL_pure]) ?_
          refine AWp.region ?_
          refine AList.c 168 rfl rfl rfl (OpJ.move rfl rfl) ?_
          refine AList.c 169 rfl rfl rfl (OpJ.neq rfl rfl rfl) ?_
          refine AList.c 170 rfl rfl rfl (OpJ.move rfl rfl) ?_
          refine AList.g 171 170 rfl rfl rfl rfl rfl rfl rfl [(23, _)] (fun h => And.intro (.inl rfl) (trivial)) (fun h => (OpJ.move rfl rfl)) ?_
          refine AList.g 172 170 rfl rfl rfl rfl rfl rfl rfl [(171, _)] (fun h => And.intro (.inr ⟨_, rfl, h⟩) (trivial)) (fun h => (OpJ.neq rfl rfl rfl)) ?_
          refine AList.c 173 rfl rfl rfl (OpJ.and_ rfl rfl rfl ?_) ?_
          · first | (intro h; rw [h]; rfl) | (intro h; simp_all)
          refine AList.c 174 rfl rfl rfl (OpJ.move rfl rfl) ?_
          refine AList.g 175 174 rfl rfl rfl rfl rfl rfl rfl [(23, _)] (fun h => And.intro (.inl rfl) (trivial)) (fun h => (OpJ.move rfl rfl)) ?_
          refine AList.g 176 174 rfl rfl rfl rfl rfl rfl rfl [(175, _)] (fun h => And.intro (.inr ⟨_, rfl, h⟩) (trivial)) (fun h => (OpJ.eql rfl rfl rfl)) ?_
          refine AList.g 177 174 rfl rfl rfl rfl rfl rfl rfl [(176, _)] (fun h => And.intro (.inr ⟨_, rfl, h⟩) (trivial)) (fun h => (OpJ.move rfl rfl)) ?_
          refine AList.g 178 177 rfl rfl rfl rfl rfl rfl rfl [(22, _)] (fun h => And.intro (.inl rfl) (trivial)) (fun h => (OpJ.move rfl rfl)) ?_
          refine AList.g 179 177 rfl rfl rfl rfl rfl rfl rfl [(9, _)] (fun h => And.intro (.inl rfl) (trivial)) (fun h => (OpJ.move rfl rfl)) ?_
          refine AList.g 180 177 rfl rfl rfl rfl rfl rfl rfl [(178, _), (179, _)] (fun h => And.intro (.inr ⟨_, rfl, h⟩) (And.intro (.inr ⟨_, rfl, h⟩) (trivial))) (fun h => (OpJ.neq rfl rfl rfl)) ?_
          refine AList.g 181 177 rfl rfl rfl rfl rfl rfl rfl [(180, _)] (fun h => And.intro (.inr ⟨_, rfl, h⟩) (trivial)) (fun h => (OpJ.move rfl rfl)) ?_
          refine AList.g 182 181 rfl rfl rfl rfl rfl rfl rfl [(21, _)] (fun h => And.intro (.inl rfl) (trivial)) (fun h => (OpJ.move rfl rfl)) ?_
          refine AList.g 183 181 rfl rfl rfl rfl rfl rfl rfl [(182, _)] (fun h => And.intro (.inr ⟨_, rfl, h⟩) (trivial)) (fun h => (OpJ.lenSlice rfl rfl sl26 (alen_tm _))) ?_
          refine AList.g 184 181 rfl rfl rfl rfl rfl rfl rfl [(8, _)] (fun h => And.intro (.inl rfl) (trivial)) (fun h => (OpJ.move rfl rfl)) ?_
          refine AList.g 185 181 rfl rfl rfl rfl rfl rfl rfl [(184, _)] (fun h => And.intro (.inr ⟨_, rfl, h⟩) (trivial)) (fun h => (OpJ.lenSlice rfl rfl sl26 rfl)) ?_
          refine AList.g 186 181 rfl rfl rfl rfl rfl rfl rfl [(183, _), (185, _)] (fun h => And.intro (.inr ⟨_, rfl, h⟩) (And.intro (.inr ⟨_, rfl, h⟩) (trivial))) (fun h => (OpJ.neq rfl rfl rfl)) ?_
          refine AList.g 187 177 rfl rfl rfl rfl rfl rfl rfl [(181, _), (186, _)] (fun h => And.intro (.inr ⟨_, rfl, h⟩) (And.intro (.inl rfl) (trivial))) (fun h => (OpJ.or_ rfl rfl rfl ?_)) ?_
          · first | (intro h; rw [h]; rfl) | (intro h; simp_all)
          refine AList.g 188 174 rfl rfl rfl rfl rfl rfl rfl [(177, _), (187, _)] (fun h => And.intro (.inr ⟨_, rfl, h⟩) (And.intro (.inl rfl) (trivial))) (fun h => (OpJ.and_ rfl rfl rfl ?_)) ?_
          · first | (intro h; rw [h]; rfl) | (intro h; simp_all)
          refine AList.c 189 rfl rfl rfl (OpJ.or_ rfl rfl rfl ?_) ?_
          · first | (intro h; rw [h]; rfl) | (intro h; simp_all)
          refine AList.nil ?_
          refine AWp.cond _ rfl (fun hc5 => ?_) (fun hc5 => ?_)
          · skip
            exfalso
            rcases hdt with ⟨h1, h2⟩ | ⟨h1, h2⟩
            · rw [h1] at hc5; simp at hc5
            · have h3 : tmT (timesR (ptn (vs3 p w) j) o) = o.length := by rw [h1]; exact hrs_len _ _ _
              rw [h3, h1, hhl] at hc5
              simp at hc5
          · skip
            refine AWp.skip ?_
            refine AWp.seq ?_
            refine AWp.region ?_
            refine AList.c 24 rfl rfl rfl (OpJ.assign rfl rfl) ?_
            refine AList.nil ?_
            refine AWp.block ?_
            refine AWp.loopHL [7, 8, 9, 14, 20, 21, 22, 23, 25, 26, 27, 155, 156, 157, 158, 159, 160, 161, 162, 163, 164, 165, 166, 167, 168, 169, 170, 171, 172, 173, 174, 175, 176, 177, 178, 179, 180, 181, 182, 183, 184, 185, 186, 187, 188, 189, 205, 206, 207, 208, 209, 210, 211, 212, 213, 214, 215, 216, 217, 218, 219, 220, 221, 222, 223, 224, 225, 226, 227] (fun g => [(24, .p (.int .i64 ((g : Nat) : Int)))]) (fun g => [.cells ((pntC (pL p w)).map .p) 24]) (fun g => g ≤ tmT (timesR (ptn (vs3 p w) j) o)) (fun g => tmT (timesR (ptn (vs3 p w) j) o) - g) 0 (Nat.zero_le _) (To.sub (Sub.chk (Sub.cons rfl (Sub.nil)))) (fun k hg => ?_)
            refine AWp.seq ?_
            refine AWp.seq ?_
            refine AWp.region ?_
            refine AList.c 190 rfl rfl rfl (OpJ.move rfl rfl) ?_
            refine AList.c 191 rfl rfl rfl (OpJ.move rfl rfl) ?_
            refine AList.c 192 rfl rfl rfl (OpJ.lenSlice rfl rfl sl26 (alen_tm _)) ?_
            refine AList.c 193 rfl rfl rfl (OpJ.lss rfl rfl rfl) ?_
            refine AList.nil ?_
            refine AWp.cond _ rfl (fun hc6 => ?_) (fun hc6 => ?_)
            · skip
              have hk0 : k < tmT (timesR (ptn (vs3 p w) j) o) := by have h := of_decide_eq_true hc6; omega
              have hq0 : (timesR (ptn (vs3 p w) j) o).2.2 = 0 := by
                refine Classical.byContradiction fun hh => ?_
                rw [show tmT (timesR (ptn (vs3 p w) j) o) = 0 from if_neg hh] at hk0
                omega
              have hdt2 : timesR (ptn (vs3 p w) j) o = (hrs (ptn (vs3 p w) j) o o.length, (o.length : Int), 0) ∧ ∀ q, q < o.length → nt (hrs (ptn (vs3 p w) j) o o.length) q ≤ nt (hrs p o o.length) q := by
                rcases hdt with ⟨h1, _⟩ | h1
                · omega
                · exact h1
              have hko : k < o.length := by have h3 : tmT (timesR (ptn (vs3 p w) j) o) = o.length := by rw [hdt2.1]; exact hrs_len _ _ _
                                            omega
              have hle := hdt2.2 k hko
              have etm : tmL (timesR (ptn (vs3 p w) j) o) = intsV (hrs (ptn (vs3 p w) j) o o.length) := by rw [hdt2.1]; exact if_pos rfl
              rw [etm]
              refine AWp.skip ?_
              refine AWp.seq ?_
              refine AWp.block ?_
              refine AWp.seq ?_
              refine AWp.regionDraw 9 mixed (by kernel_rfl) (by decide) ?_
              refine AQuiet.cons 196 rfl rfl rfl (OpJ.move rfl rfl) ?_
              refine AQuiet.cons 197 rfl rfl rfl (OpJ.move rfl rfl) ?_
              refine AQuiet.cons 198 rfl rfl rfl (OpJ.indexG (g := nt (hrs (ptn (vs3 p w) j) o o.length)) nt_get rfl rfl rfl sl26 el26 rfl (fun _ => rfl) (by decide) (by rw [hrs_len]; exact hko)) ?_
              refine AQuiet.cons 199 rfl rfl rfl (OpJ.load (v := .p (.int .i64 (nt (hrs (ptn (vs3 p w) j) o o.length) k))) rfl rfl ty3 rfl) ?_
              refine AQuiet.cons 200 rfl rfl rfl (OpJ.move rfl rfl) ?_
              refine AQuiet.cons 201 rfl rfl rfl (OpJ.move rfl rfl) ?_
              refine AQuiet.cons 202 rfl rfl rfl (OpJ.indexG (g := nt (hrs p o o.length)) nt_get rfl rfl rfl sl26 el26 rfl (fun _ => rfl) (by decide) (by rw [hrs_len]; exact hko)) ?_
              refine AQuiet.cons 203 rfl rfl rfl (OpJ.load (v := .p (.int .i64 (nt (hrs p o o.length) k))) rfl rfl ty3 rfl) ?_
              refine AQuiet.cons 204 rfl rfl rfl (OpJ.gtr rfl rfl rfl) ?_
              refine AQuiet.nil ?_
              refine AList.nil ?_
              refine AWp.cond _ rfl (fun hc7 => ?_) (fun hc7 => ?_)
              · skip
                exfalso
                have h := of_decide_eq_true hc7
                omega
              · skip
                refine AWp.skip ?_
                refine AWp.region ?_
                refine AList.c 194 rfl rfl rfl (OpJ.move rfl rfl) ?_
                refine AList.c 195 rfl rfl rfl (OpJ.add rfl rfl rfl (i64ok ?_)) ?_
                · omega
                refine AList.c 24 rfl rfl rfl (OpJ.assign rfl rfl) ?_
                refine AList.nil ?_
                refine ⟨k + 1, ?_, ?_, ?_⟩
                · omega
                · omega
                exact To.sub (Sub.cons rfl (by repeat (first | exact Sub.nil | refine Sub.cons rfl ?_)))
            · skip
              refine AWp.exit ?_
              refine AWp.region ?_
              refine AList.c 205 rfl rfl rfl (OpJ.add rfl rfl rfl (i64ok ?_)) ?_
              · omega
              refine AList.c 157 rfl rfl rfl (OpJ.move rfl rfl) ?_
              refine AList.nil ?_
              refine ⟨j + 1, ?_, ?_, ?_⟩
              · omega
              · omega
              exact To.sub (Sub.cons rfl (by repeat (first | exact Sub.nil | refine Sub.cons rfl ?_)))
        · skip
          obtain rfl : j = 3 := by have h := of_decide_eq_false hc4; omega
          refine AWp.exit ?_
          refine AWp.seq ?_
          refine AWp.region ?_
          refine AList.c 207 rfl rfl rfl (OpJ.load (v := .p (pntV (pL p w))) rfl rfl ty24 rfl) ?_
          refine AList.c 208 rfl rfl rfl (OpJ.move rfl rfl) ?_
          refine AList.c 209 rfl rfl rfl (OpJ.callP (late_C w (by omega) h0) rfl rfl rfl rfl rf13) ?_
          refine AList.c 206 rfl rfl rfl (OpJ.move rfl rfl) ?_
          refine AList.c 210 rfl rfl rfl (OpJ.extract rfl rfl rfl) ?_
          refine AList.c 211 rfl rfl rfl (OpJ.extract rfl rfl rfl) ?_
          refine AList.c 212 rfl rfl rfl (OpJ.extract rfl rfl rfl) ?_
          refine AList.c 25 rfl rfl rfl (OpJ.assign rfl rfl) ?_
          refine AList.c 26 rfl rfl rfl (OpJ.assign rfl rfl) ?_
          refine AList.c 27 rfl rfl rfl (OpJ.assign rfl rfl) ?_
          refine AList.nil ?_
          refine AWp.seq ?_
          refine AWp.region ?_
          refine AList.c 213 rfl rfl rfl (OpJ.move rfl rfl) ?_
          refine AList.c 214 rfl rfl rfl (OpJ.eql rfl rfl rfl) ?_
          refine AList.c 215 rfl rfl rfl (OpJ.move rfl rfl) ?_
          refine AList.g 216 215 rfl rfl rfl rfl rfl rfl rfl [(26, _)] (fun h => And.intro (.inl rfl) (trivial)) (fun h => (OpJ.move rfl rfl)) ?_
          refine AList.g 217 215 rfl rfl rfl rfl rfl rfl rfl [(9, _)] (fun h => And.intro (.inl rfl) (trivial)) (fun h => (OpJ.move rfl rfl)) ?_
          refine AList.g 218 215 rfl rfl rfl rfl rfl rfl rfl [(216, _), (217, _)] (fun h => And.intro (.inr ⟨_, rfl, h⟩) (And.intro (.inr ⟨_, rfl, h⟩) (trivial))) (fun h => (OpJ.eql rfl rfl rfl)) ?_
          refine AList.c 219 rfl rfl rfl (OpJ.and_ rfl rfl rfl ?_) ?_
          · first | (intro h; rw [h]; rfl) | (intro h; simp_all)
          refine AList.c 220 rfl rfl rfl (OpJ.move rfl rfl) ?_
          refine AList.g 221 220 rfl rfl rfl rfl rfl rfl rfl [(25, _)] (fun h => And.intro (.inl rfl) (trivial)) (fun h => (OpJ.move rfl rfl)) ?_
          refine AList.g 222 220 rfl rfl rfl rfl rfl rfl rfl [(8, _)] (fun h => And.intro (.inl rfl) (trivial)) (fun h => (OpJ.move rfl rfl)) ?_
          refine AList.g 223 220 rfl rfl rfl rfl rfl rfl rfl [(221, _), (222, _)] (fun h => And.intro (.inr ⟨_, rfl, h⟩) (And.intro (.inr ⟨_, rfl, h⟩) (trivial))) (fun h => (OpJ.callP (ints_H p o (by omega)) rfl rfl rfl rfl rf17)) ?_
          refine AList.c 224 rfl rfl rfl (OpJ.and_ rfl rfl rfl ?_) ?_
          · first | (intro h; rw [h]; rfl) | (intro h; simp_all)
          refine AList.c 225 rfl rfl rfl (OpJ.move rfl rfl) ?_
          refine AList.g 226 225 rfl rfl rfl rfl rfl rfl rfl [] (fun h => trivial) (fun h => (OpJ.callP (awake_ok) rfl rfl rfl rfl rf10)) ?_
          refine AList.c 227 rfl rfl rfl (OpJ.and_ rfl rfl rfl ?_) ?_
          · first | (intro h; rw [h]; rfl) | (intro h; simp_all)
          refine AList.c 6 rfl rfl rfl (OpJ.assign rfl rfl) ?_
          refine AList.nil ?_
          refine AWp.ret ?_
          refine Fin.oneE rfl rfl ?_
          simp
theorem coatMore_law {x0 x1 x2 : List PV} (h0 : TyL [.leaf (.int .i64), .leaf (.int .i64), .sl [.sl [.leaf (.int .i64), .leaf (.int .i64)], .leaf (.int .i64)]] x0) (h1 : TyL [.sl [.leaf (.int .u8)]] x1) (h2 : TyL [.leaf (.int .u8)] x2) : Pure Try.prog 8 [argP true x0, argP false x1, argP false x2] (.bool true) := by
  obtain ⟨p, rfl, hp⟩ := pnt_of h0
  obtain ⟨l, rfl, hl, hl2⟩ := bys_of h1
  obtain ⟨n, rfl, hn⟩ := u8_of h2
  by_cases h : (timesR p (ordN p l 9)).2.2 = 0
  · exact lawMore_P p l n hl hl2 hn hp h
  · exact lawMore_E p l n hl hl2 hn hp h
end Go.Proofs.Ytibgdkaipleajaa
end
