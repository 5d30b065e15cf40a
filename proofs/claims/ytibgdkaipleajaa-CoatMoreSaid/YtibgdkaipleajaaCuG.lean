/-
  CoatTimes.
  CoatTimes, from its arguments.
-/
import Derived.Test.YtibgdkaipleajaaCuF
import Derived.Test.YtibgdkaipleajaaCuE
import Derived.Test.YtibgdkaipleajaaCuP
section
set_option linter.unusedVariables false
set_option maxRecDepth 100000
set_option maxHeartbeats 4000000
set_option linter.unusedSimpArgs false
namespace Go.Proofs.Ytibgdkaipleajaa
open Go.AF
theorem tm_len (p : Pnt) (o : List Int) : (timesR p o).1.length ≤ o.length := by
  unfold timesR
  split
  · exact Nat.zero_le _
  · split
    · exact Nat.zero_le _
    · split
      · exact Nat.zero_le _
      · show (hrs p o o.length).length ≤ _
        rw [hrs_len]; exact Nat.le_refl _
theorem ints_T (p : Pnt) (o : List Int) (ho : o.length ≤ 14) : Pure Try.prog 17 [tmL (timesR p o), tmL (timesR p o)] (.bool true) := by
  have hl := tm_len p o
  unfold tmL
  split
  · have h := ints_ok (timesR p o).1 (timesR p o).1 (by unfold bigN; omega) (by unfold bigN; omega)
    rwa [decide_eq_true rfl] at h
  · have h := ints_ok [] [] (by decide) (by decide)
    have h2 := Pure.acc (n := 0) [] (fun _ => rfl) (show Pure Try.prog 17 ([] ++ .is [] 0 :: [.is [] 0]) (.bool true) from h)
    exact Pure.acc (n := 0) [.nilSlice] (r := []) (fun _ => rfl) h2
theorem lawTimes_walk (p : Pnt) (l : List Dp) (o : List Int) (hour : Int) (hbb : p.bs.length ≤ bigN) : Pure Try.prog 3 [pntV p, dpsV l, intsV o, .int .i64 hour] (.bool true) := by
  refine Pure.start (N := 112) Try.func3 rfl rfl (Nat.le_of_ble_eq_true rfl) ?_
  refine AWp.seq ?_
  refine AWp.region ?_
  refine AList.c 4 rfl rfl rfl (OpJ.boxImm rfl rfl rfl) ?_
  refine AList.c 8 rfl rfl rfl (OpJ.assign rfl rfl) ?_
  refine AList.nil ?_
  refine AWp.seq ?_
  refine AWp.seq ?_
  refine AWp.region ?_
  refine AList.c 23 rfl rfl rfl (OpJ.load (v := .p (pntV p)) rfl rfl ty24 rfl) ?_
  refine AList.c 24 rfl rfl rfl (OpJ.callP (large_ok p 9 hbb) rfl rfl rfl rfl rf9) ?_
  refine AList.c 25 rfl rfl rfl (OpJ.move rfl rfl) ?_
  refine AList.g 26 25 rfl rfl rfl rfl rfl rfl rfl [(1, _)] (fun h => And.intro (.inl rfl) (trivial)) (fun h => (OpJ.move rfl rfl)) ?_
  refine AList.g 27 25 rfl rfl rfl rfl rfl rfl rfl [(26, _)] (fun h => And.intro (.inr ⟨_, rfl, h⟩) (trivial)) (fun h => (OpJ.lenSlice rfl rfl sl25 rfl)) ?_
  refine AList.g 28 25 rfl rfl rfl rfl rfl rfl rfl [(27, _)] (fun h => And.intro (.inr ⟨_, rfl, h⟩) (trivial)) (fun h => (OpJ.gtr rfl rfl rfl)) ?_
  refine AList.c 29 rfl rfl rfl (OpJ.or_ rfl rfl rfl ?_) ?_
  · first | (intro h; rw [h]; rfl) | (intro h; simp_all)
  refine AList.c 30 rfl rfl rfl (OpJ.move rfl rfl) ?_
  refine AList.g 31 30 rfl rfl rfl rfl rfl rfl rfl [(2, _)] (fun h => And.intro (.inl rfl) (trivial)) (fun h => (OpJ.move rfl rfl)) ?_
  refine AList.g 32 30 rfl rfl rfl rfl rfl rfl rfl [(31, _)] (fun h => And.intro (.inr ⟨_, rfl, h⟩) (trivial)) (fun h => (OpJ.lenSlice rfl rfl sl26 rfl)) ?_
  refine AList.g 33 30 rfl rfl rfl rfl rfl rfl rfl [(32, _)] (fun h => And.intro (.inr ⟨_, rfl, h⟩) (trivial)) (fun h => (OpJ.gtr rfl rfl rfl)) ?_
  refine AList.c 34 rfl rfl rfl (OpJ.or_ rfl rfl rfl ?_) ?_
  · first | (intro h; rw [h]; rfl) | (intro h; simp_all)
  refine AList.nil ?_
  refine AWp.cond _ rfl (fun hc0 => ?_) (fun hc0 => ?_)
  · skip
    refine AWp.seq ?_
    refine AWp.region ?_
    refine AList.c 35 rfl rfl rfl (OpJ.callP (awake_ok) rfl rfl rfl rfl rf10) ?_
    refine AList.c 8 rfl rfl rfl (OpJ.assign rfl rfl) ?_
    refine AList.nil ?_
    refine AWp.ret ?_
    exact Fin.oneE rfl rfl rfl
  · skip
    obtain ⟨⟨hlg, hl14⟩, ho14⟩ : (lrgB p 9 = false ∧ l.length ≤ 14) ∧ o.length ≤ 14 := by
      have h := hc0
      simp only [Bool.or_eq_false_iff, decide_eq_false_iff_not] at h
      exact ⟨⟨h.1.1, by omega⟩, by omega⟩
    obtain ⟨hb, hbd, _⟩ := lrg_no hlg
    refine AWp.skip ?_
    refine AWp.seq ?_
    refine AWp.region ?_
    refine AList.c 37 rfl rfl rfl (OpJ.load (v := .p (pntV p)) rfl rfl ty24 rfl) ?_
    refine AList.c 38 rfl rfl rfl (OpJ.move rfl rfl) ?_
    refine AList.c 39 rfl rfl rfl (OpJ.callP (check_ok p l hb hbd (by omega)) rfl rfl rfl rfl rf11) ?_
    refine AList.c 36 rfl rfl rfl (OpJ.move rfl rfl) ?_
    refine AList.c 40 rfl rfl rfl (OpJ.extract rfl rfl rfl) ?_
    refine AList.c 41 rfl rfl rfl (OpJ.extract rfl rfl rfl) ?_
    refine AList.c 9 rfl rfl rfl (OpJ.assign rfl rfl) ?_
    refine AList.c 10 rfl rfl rfl (OpJ.assign rfl rfl) ?_
    refine AList.nil ?_
    refine AWp.seq ?_
    refine AWp.region ?_
    refine AList.c 43 rfl rfl rfl (OpJ.load (v := .p (pntV p)) rfl rfl ty24 rfl) ?_
    refine AList.c 44 rfl rfl rfl (OpJ.move rfl rfl) ?_
    refine AList.c 45 rfl rfl rfl (OpJ.callP (rCheck_ok p l hb hbd (by omega)) rfl rfl rfl rfl rf12) ?_
    refine AList.c 42 rfl rfl rfl (OpJ.move rfl rfl) ?_
    refine AList.c 46 rfl rfl rfl (OpJ.extract rfl rfl rfl) ?_
    refine AList.c 47 rfl rfl rfl (OpJ.extract rfl rfl rfl) ?_
    refine AList.c 11 rfl rfl rfl (OpJ.assign rfl rfl) ?_
    refine AList.c 12 rfl rfl rfl (OpJ.assign rfl rfl) ?_
    refine AList.nil ?_
    refine AWp.seq ?_
    refine AWp.region ?_
    refine AList.c 49 rfl rfl rfl (OpJ.load (v := .p (pntV p)) rfl rfl ty24 rfl) ?_
    refine AList.c 50 rfl rfl rfl (OpJ.move rfl rfl) ?_
    refine AList.c 51 rfl rfl rfl (OpJ.callP (times_ok p o hb hbd (by omega)) rfl rfl rfl rfl rf13) ?_
    refine AList.c 48 rfl rfl rfl (OpJ.move rfl rfl) ?_
    refine AList.c 52 rfl rfl rfl (OpJ.extract rfl rfl rfl) ?_
    refine AList.c 53 rfl rfl rfl (OpJ.extract rfl rfl rfl) ?_
    refine AList.c 54 rfl rfl rfl (OpJ.extract rfl rfl rfl) ?_
    refine AList.c 13 rfl rfl rfl (OpJ.assign rfl rfl) ?_
    refine AList.c 14 rfl rfl rfl (OpJ.assign rfl rfl) ?_
    refine AList.c 15 rfl rfl rfl (OpJ.assign rfl rfl) ?_
    refine AList.nil ?_
    refine AWp.seq ?_
    refine AWp.region ?_
    refine AList.c 56 rfl rfl rfl (OpJ.load (v := .p (pntV p)) rfl rfl ty24 rfl) ?_
    refine AList.c 57 rfl rfl rfl (OpJ.move rfl rfl) ?_
    refine AList.c 58 rfl rfl rfl (OpJ.callP (rTimes_ok p o hb hbd (by omega)) rfl rfl rfl rfl rf14) ?_
    refine AList.c 55 rfl rfl rfl (OpJ.move rfl rfl) ?_
    refine AList.c 59 rfl rfl rfl (OpJ.extract rfl rfl rfl) ?_
    refine AList.c 60 rfl rfl rfl (OpJ.extract rfl rfl rfl) ?_
    refine AList.c 61 rfl rfl rfl (OpJ.extract rfl rfl rfl) ?_
    refine AList.c 16 rfl rfl rfl (OpJ.assign rfl rfl) ?_
    refine AList.c 17 rfl rfl rfl (OpJ.assign rfl rfl) ?_
    refine AList.c 18 rfl rfl rfl (OpJ.assign rfl rfl) ?_
    refine AList.nil ?_
    refine AWp.seq ?_
    refine AWp.region ?_
    refine AList.c 63 rfl rfl rfl (OpJ.load (v := .p (pntV p)) rfl rfl ty24 rfl) ?_
    refine AList.c 64 rfl rfl rfl (OpJ.move rfl rfl) ?_
    refine AList.c 65 rfl rfl rfl (OpJ.move rfl rfl) ?_
    refine AList.c 66 rfl rfl rfl (OpJ.callP (wet_ok p o hour hb hbd (by omega)) rfl rfl rfl rfl rf15) ?_
    refine AList.c 62 rfl rfl rfl (OpJ.move rfl rfl) ?_
    refine AList.c 67 rfl rfl rfl (OpJ.extract rfl rfl rfl) ?_
    refine AList.c 68 rfl rfl rfl (OpJ.extract rfl rfl rfl) ?_
    refine AList.c 19 rfl rfl rfl (OpJ.allocOwn rfl zr35 rfl) ?_
    refine AList.c0 rfl rfl (OpJ.store (H' := [.cells ([.int .i64 (wetR p o hour).1.lo, .int .i64 (wetR p o hour).1.hi].map .p) 35]) rfl rfl rfl rfl rfl ty35 rfl rfl) ?_
    refine AList.c 20 rfl rfl rfl (OpJ.assign rfl rfl) ?_
    refine AList.nil ?_
    refine AWp.seq ?_
    refine AWp.region ?_
    refine AList.c 70 rfl rfl rfl (OpJ.load (v := .p (pntV p)) rfl rfl ty24 rfl) ?_
    refine AList.c 71 rfl rfl rfl (OpJ.move rfl rfl) ?_
    refine AList.c 72 rfl rfl rfl (OpJ.move rfl rfl) ?_
    refine AList.c 73 rfl rfl rfl (OpJ.callP (rWet_ok p o hour hb hbd (by omega)) rfl rfl rfl rfl rf16) ?_
    refine AList.c 69 rfl rfl rfl (OpJ.move rfl rfl) ?_
    refine AList.c 74 rfl rfl rfl (OpJ.extract rfl rfl rfl) ?_
    refine AList.c 75 rfl rfl rfl (OpJ.extract rfl rfl rfl) ?_
    refine AList.c 21 rfl rfl rfl (OpJ.allocOwn rfl zr35 rfl) ?_
    refine AList.c0 rfl rfl (OpJ.store (H' := [.cells ([.int .i64 (wetR p o hour).1.lo, .int .i64 (wetR p o hour).1.hi].map .p) 35, .cells ([.int .i64 (wetR p o hour).1.lo, .int .i64 (wetR p o hour).1.hi].map .p) 35]) rfl rfl rfl rfl rfl ty35 rfl rfl) ?_
    refine AList.c 22 rfl rfl rfl (OpJ.assign rfl rfl) ?_
    refine AList.nil ?_
    refine AWp.seq ?_
    refine AWp.region ?_
    refine AList.c 76 rfl rfl rfl (OpJ.move rfl rfl) ?_
    refine AList.c 77 rfl rfl rfl (OpJ.move rfl rfl) ?_
    refine AList.c 78 rfl rfl rfl (OpJ.eql rfl rfl rfl) ?_
    refine AList.c 79 rfl rfl rfl (OpJ.move rfl rfl) ?_
    refine AList.g 80 79 rfl rfl rfl rfl rfl rfl rfl [(10, _)] (fun h => And.intro (.inl rfl) (trivial)) (fun h => (OpJ.move rfl rfl)) ?_
    refine AList.g 81 79 rfl rfl rfl rfl rfl rfl rfl [(12, _)] (fun h => And.intro (.inl rfl) (trivial)) (fun h => (OpJ.move rfl rfl)) ?_
    refine AList.g 82 79 rfl rfl rfl rfl rfl rfl rfl [(80, _), (81, _)] (fun h => And.intro (.inr ⟨_, rfl, h⟩) (And.intro (.inr ⟨_, rfl, h⟩) (trivial))) (fun h => (OpJ.eql rfl rfl rfl)) ?_
    refine AList.c 83 rfl rfl rfl (OpJ.and_ rfl rfl rfl ?_) ?_
    · first | (intro h; rw [h]; rfl) | (intro h; simp_all)
    refine AList.c 84 rfl rfl rfl (OpJ.move rfl rfl) ?_
    refine AList.g 85 84 rfl rfl rfl rfl rfl rfl rfl [(13, _)] (fun h => And.intro (.inl rfl) (trivial)) (fun h => (OpJ.move rfl rfl)) ?_
    refine AList.g 86 84 rfl rfl rfl rfl rfl rfl rfl [(16, _)] (fun h => And.intro (.inl rfl) (trivial)) (fun h => (OpJ.move rfl rfl)) ?_
    refine AList.g 87 84 rfl rfl rfl rfl rfl rfl rfl [(85, _), (86, _)] (fun h => And.intro (.inr ⟨_, rfl, h⟩) (And.intro (.inr ⟨_, rfl, h⟩) (trivial))) (fun h => (OpJ.callP (ints_T p o (by omega)) rfl rfl rfl rfl rf17)) ?_
    refine AList.c 88 rfl rfl rfl (OpJ.and_ rfl rfl rfl ?_) ?_
    · first | (intro h; rw [h]; rfl) | (intro h; simp_all)
    refine AList.c 89 rfl rfl rfl (OpJ.move rfl rfl) ?_
    refine AList.g 90 89 rfl rfl rfl rfl rfl rfl rfl [(14, _)] (fun h => And.intro (.inl rfl) (trivial)) (fun h => (OpJ.move rfl rfl)) ?_
    refine AList.g 91 89 rfl rfl rfl rfl rfl rfl rfl [(17, _)] (fun h => And.intro (.inl rfl) (trivial)) (fun h => (OpJ.move rfl rfl)) ?_
    refine AList.g 92 89 rfl rfl rfl rfl rfl rfl rfl [(90, _), (91, _)] (fun h => And.intro (.inr ⟨_, rfl, h⟩) (And.intro (.inr ⟨_, rfl, h⟩) (trivial))) (fun h => (OpJ.eql rfl rfl rfl)) ?_
    refine AList.c 93 rfl rfl rfl (OpJ.and_ rfl rfl rfl ?_) ?_
    · first | (intro h; rw [h]; rfl) | (intro h; simp_all)
    refine AList.c 94 rfl rfl rfl (OpJ.move rfl rfl) ?_
    refine AList.g 95 94 rfl rfl rfl rfl rfl rfl rfl [(15, _)] (fun h => And.intro (.inl rfl) (trivial)) (fun h => (OpJ.move rfl rfl)) ?_
    refine AList.g 96 94 rfl rfl rfl rfl rfl rfl rfl [(18, _)] (fun h => And.intro (.inl rfl) (trivial)) (fun h => (OpJ.move rfl rfl)) ?_
    refine AList.g 97 94 rfl rfl rfl rfl rfl rfl rfl [(95, _), (96, _)] (fun h => And.intro (.inr ⟨_, rfl, h⟩) (And.intro (.inr ⟨_, rfl, h⟩) (trivial))) (fun h => (OpJ.eql rfl rfl rfl)) ?_
    refine AList.c 98 rfl rfl rfl (OpJ.and_ rfl rfl rfl ?_) ?_
    · first | (intro h; rw [h]; rfl) | (intro h; simp_all)
    refine AList.c 99 rfl rfl rfl (OpJ.move rfl rfl) ?_
    refine AList.g 100 99 rfl rfl rfl rfl rfl rfl rfl [(19, _)] (fun h => And.intro (.inl rfl) (trivial)) (fun h => (OpJ.load (v := .p (.agg [.int .i64 (wetR p o hour).1.lo, .int .i64 (wetR p o hour).1.hi])) rfl rfl ty35 rfl)) ?_
    refine AList.g 101 99 rfl rfl rfl rfl rfl rfl rfl [(21, _)] (fun h => And.intro (.inl rfl) (trivial)) (fun h => (OpJ.load (v := .p (.agg [.int .i64 (wetR p o hour).1.lo, .int .i64 (wetR p o hour).1.hi])) rfl rfl ty35 rfl)) ?_
    refine AList.g 102 99 rfl rfl rfl rfl rfl rfl rfl [(100, _), (101, _)] (fun h => And.intro (.inr ⟨_, rfl, h⟩) (And.intro (.inr ⟨_, rfl, h⟩) (trivial))) (fun h => (OpJ.eqAgg (d := 8) rfl (.inl rfl) rfl rfl (by decide) eq35 ty35 rfl eg35 rfl)) ?_
    refine AList.c 103 rfl rfl rfl (OpJ.and_ rfl rfl rfl ?_) ?_
    · first | (intro h; rw [h]; rfl) | (intro h; simp_all)
    refine AList.c 104 rfl rfl rfl (OpJ.move rfl rfl) ?_
    refine AList.g 105 104 rfl rfl rfl rfl rfl rfl rfl [(20, _)] (fun h => And.intro (.inl rfl) (trivial)) (fun h => (OpJ.move rfl rfl)) ?_
    refine AList.g 106 104 rfl rfl rfl rfl rfl rfl rfl [(22, _)] (fun h => And.intro (.inl rfl) (trivial)) (fun h => (OpJ.move rfl rfl)) ?_
    refine AList.g 107 104 rfl rfl rfl rfl rfl rfl rfl [(105, _), (106, _)] (fun h => And.intro (.inr ⟨_, rfl, h⟩) (And.intro (.inr ⟨_, rfl, h⟩) (trivial))) (fun h => (OpJ.eql rfl rfl rfl)) ?_
    refine AList.c 108 rfl rfl rfl (OpJ.and_ rfl rfl rfl ?_) ?_
    · first | (intro h; rw [h]; rfl) | (intro h; simp_all)
    refine AList.c 109 rfl rfl rfl (OpJ.move rfl rfl) ?_
    refine AList.g 110 109 rfl rfl rfl rfl rfl rfl rfl [] (fun h => trivial) (fun h => (OpJ.callP (awake_ok) rfl rfl rfl rfl rf10)) ?_
    refine AList.c 111 rfl rfl rfl (OpJ.and_ rfl rfl rfl ?_) ?_
    · first | (intro h; rw [h]; rfl) | (intro h; simp_all)
    refine AList.c 8 rfl rfl rfl (OpJ.assign rfl rfl) ?_
    refine AList.nil ?_
    refine AWp.ret ?_
    refine Fin.oneE rfl rfl ?_
    simp
end Go.Proofs.Ytibgdkaipleajaa
end

section
set_option linter.unusedVariables false
set_option maxRecDepth 100000
set_option maxHeartbeats 4000000
set_option linter.unusedSimpArgs false
namespace Go.Proofs.Ytibgdkaipleajaa
open Go.AF
theorem coatTimes_law {x0 x1 x2 x3 : List PV} (h0 : TyL [.leaf (.int .i64), .leaf (.int .i64), .sl [.sl [.leaf (.int .i64), .leaf (.int .i64)], .leaf (.int .i64)]] x0) (h1 : TyL [.sl [.leaf (.int .i64), .leaf (.int .i64)]] x1) (h2 : TyL [.sl [.leaf (.int .i64)]] x2) (h3 : TyL [.leaf (.int .i64)] x3) : Pure Try.prog 3 [argP true x0, argP false x1, argP false x2, argP false x3] (.bool true) := by
  obtain ⟨p, rfl, hp⟩ := pnt_of h0
  obtain ⟨l, rfl, hl⟩ := dps_of h1
  obtain ⟨o, rfl, ho⟩ := intl_of h2
  obtain ⟨n, rfl⟩ := int_of h3
  exact lawTimes_walk p l o n hp
end Go.Proofs.Ytibgdkaipleajaa
end
