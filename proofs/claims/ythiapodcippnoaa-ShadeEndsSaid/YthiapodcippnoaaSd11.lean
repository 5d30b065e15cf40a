/-
  The law ShadeEnds.
-/
import Derived.Test.YthiapodcippnoaaSdFactsC
import Derived.Test.YthiapodcippnoaaSd9
import Derived.Test.YthiapodcippnoaaSdL
set_option linter.unusedVariables false
set_option maxRecDepth 100000
set_option maxHeartbeats 4000000
set_option linter.unusedSimpArgs false
namespace Go.Proofs.Ythiapodcippnoaa
open Go.AF
theorem holds1_ok (c : List Tnt) (l : Lds) (n : Int) (hc : okC c) (hl : OkL l) (n0 : -1000 ≤ n) (n1 : n ≤ 1000) : Pure Try.prog 32 [.int .i64 n, .ip [curV c] 0, .ip l.cells 0] (.bool (decide (holdsI c l n))) := by
  refine Pure.start (N := 9) Try.func32 rfl rfl (Nat.le_of_ble_eq_true rfl) ?_
  refine AWp.seq ?_
  refine AWp.region ?_
  refine AList.c 4 rfl rfl rfl (OpJ.assign rfl rfl) ?_
  refine AList.nil ?_
  refine AWp.seq ?_
  refine AWp.region ?_
  refine AList.c 5 rfl rfl rfl (OpJ.load rfl rfl ty22 rfl) ?_
  refine AList.c 6 rfl rfl rfl (OpJ.load rfl rfl ty28 rfl) ?_
  refine AList.c 7 rfl rfl rfl (OpJ.move rfl rfl) ?_
  refine AList.c 8 rfl rfl rfl (OpJ.callP (holds_ok c l n hc hl n0 n1) rfl rfl rfl rfl rf33) ?_
  refine AList.c 4 rfl rfl rfl (OpJ.assign rfl rfl) ?_
  refine AList.nil ?_
  refine AWp.ret ?_
  exact Fin.one rfl (rfl)
theorem holdsF (c : List Tnt) (l : Lds) (n : Int) (hc : okC c) (hl : OkL l) (n0 : -1000 ≤ n) (n1 : n ≤ 1000) : FPure Try.prog (.func (.func 32) [] [.ip [curV c] 0, .ip l.cells 0]) [.int .i64 n] (.bool (decide (holdsI c l n))) := ⟨32, _, rfl, rf32, holds1_ok c l n hc hl n0 n1⟩
theorem shadeEnds_main (c : List Tnt) (l : Lds) (s : List Shd) (hcb : c.length ≤ bigN) (hs : l.st.length ≤ bigN) (hsl : s.length ≤ bigN) : Pure Try.prog 7 [curV c, ldV l, shdV s] (.bool true) := by
  have hsl2 := hsl
  unfold bigN at hsl2
  refine Pure.start (N := 221) Try.func7 rfl rfl (Nat.le_of_ble_eq_true rfl) ?_
  refine AWp.seq ?_
  refine AWp.region ?_
  refine AList.c 3 rfl rfl rfl (OpJ.boxImm rfl rfl rfl) ?_
  refine AList.c 4 rfl rfl rfl (OpJ.boxImm rfl rfl rfl) ?_
  refine AList.c 6 rfl rfl rfl (OpJ.assign rfl rfl) ?_
  refine AList.nil ?_
  refine AWp.seq ?_
  refine AWp.seq ?_
  refine AWp.region ?_
  refine AList.c 16 rfl rfl rfl (OpJ.load rfl rfl ty22 rfl) ?_
  refine AList.c 17 rfl rfl rfl (OpJ.load (v := .p (ldV l)) rfl rfl ty28 rfl) ?_
  refine AList.c 18 rfl rfl rfl (OpJ.buildImm rfl slz39 (by decide) rfl rfl rfl) ?_
  refine AList.c 19 rfl rfl rfl (OpJ.callP (great_ok c [l] hcb (by unfold bigN; show 1 ≤ _; omega) (fun x hx => by simp at hx; subst hx; exact hs)) rfl rfl rfl rfl rf13) ?_
  refine AList.c 20 rfl rfl rfl (OpJ.move rfl rfl) ?_
  refine AList.g 21 20 rfl rfl rfl rfl rfl rfl rfl [(2, _)] (fun h => And.intro (.inl rfl) (trivial)) (fun h => (OpJ.move rfl rfl)) ?_
  refine AList.g 22 20 rfl rfl rfl rfl rfl rfl rfl [(21, _)] (fun h => And.intro (.inr ⟨_, rfl, h⟩) (trivial)) (fun h => (OpJ.lenSlice rfl rfl sl23 rfl)) ?_
  refine AList.g 23 20 rfl rfl rfl rfl rfl rfl rfl [(22, _)] (fun h => And.intro (.inr ⟨_, rfl, h⟩) (trivial)) (fun h => (OpJ.gtr rfl rfl rfl)) ?_
  refine AList.c 24 rfl rfl rfl (OpJ.or_ rfl rfl rfl ?_) ?_
  · first | (intro h; rw [h]; rfl) | (intro h; simp_all)
  refine AList.nil ?_
  refine AWp.cond _ rfl (fun hc0 => ?_) (fun hc0 => ?_)
  · skip
    refine AWp.seq ?_
    refine AWp.region ?_
    refine AList.c 25 rfl rfl rfl (OpJ.callP (alive_ok) rfl rfl rfl rfl rf14) ?_
    refine AList.c 6 rfl rfl rfl (OpJ.assign rfl rfl) ?_
    refine AList.nil ?_
    refine AWp.ret ?_
    exact Fin.oneE rfl rfl rfl
  · skip
    refine AWp.skip ?_
    refine AWp.seq ?_
    refine AWp.region ?_
    refine AList.c 27 rfl rfl rfl (OpJ.load rfl rfl ty22 rfl) ?_
    refine AList.c 28 rfl rfl rfl (OpJ.load (v := .p (ldV l)) rfl rfl ty28 rfl) ?_
    refine AList.c 29 rfl rfl rfl (OpJ.callP (black_R c l hcb hs) rfl rfl rfl rfl rf15) ?_
    refine AList.c 26 rfl rfl rfl (OpJ.move rfl rfl) ?_
    refine AList.c 30 rfl rfl rfl (OpJ.extract rfl rfl rfl) ?_
    refine AList.c 31 rfl rfl rfl (OpJ.extract rfl rfl rfl) ?_
    refine AList.c 7 rfl rfl rfl (OpJ.allocOwn rfl zr25 rfl) ?_
    refine AList.c0 rfl rfl (OpJ.store rfl rfl rfl rfl rfl ty25 rfl rfl) ?_
    refine AList.c 8 rfl rfl rfl (OpJ.assign rfl rfl) ?_
    refine AList.nil ?_
    refine AWp.seq ?_
    refine AWp.seq ?_
    refine AWp.region ?_
    refine AList.c 32 rfl rfl rfl (OpJ.move rfl rfl) ?_
    refine AList.c 33 rfl rfl rfl (OpJ.neq rfl rfl rfl) ?_
    refine AList.nil ?_
    refine AWp.cond _ rfl (fun hc1 => ?_) (fun hc1 => ?_)
    · skip
      have e : (blackR c l).2 ≠ 0 := by simpa using hc1
      have hE := blackR_err e
      refine AWp.seq ?_
      refine AWp.region ?_
      refine AList.c 34 rfl rfl rfl (OpJ.load rfl rfl ty25 rfl) ?_
      refine AList.c 35 rfl rfl rfl (OpJ.build rfl bd25 rfl rfl) ?_
      refine AList.c 36 rfl rfl rfl (OpJ.eqAgg (d := 8) rfl (.inl rfl) rfl rfl (by decide) eq25 ty25 rfl eg25 rfl) ?_
      refine AList.c 37 rfl rfl rfl (OpJ.move rfl rfl) ?_
      refine AList.g 38 37 rfl rfl rfl rfl rfl rfl rfl [(8, _)] (fun h => And.intro (.inl rfl) (trivial)) (fun h => (OpJ.move rfl rfl)) ?_
      refine AList.g 39 37 rfl rfl rfl rfl rfl rfl rfl [(38, _)] (fun h => And.intro (.inr ⟨_, rfl, h⟩) (trivial)) (fun h => (OpJ.eql rfl rfl rfl)) ?_
      refine AList.g 40 37 rfl rfl rfl rfl rfl rfl rfl [(3, _)] (fun h => And.intro (.inl rfl) (trivial)) (fun h => (OpJ.load rfl rfl ty22 rfl)) ?_
      refine AList.g 41 37 rfl rfl rfl rfl rfl rfl rfl [(40, _)] (fun h => And.intro (.inr ⟨_, rfl, h⟩) (trivial)) (fun h => (OpJ.callP (rcurve_ok c hcb) rfl rfl rfl rfl rf28)) ?_
      refine AList.g 42 37 rfl rfl rfl rfl rfl rfl rfl [(41, _)] (fun h => And.intro (.inr ⟨_, rfl, h⟩) (trivial)) (fun h => (OpJ.not_ rfl rfl)) ?_
      refine AList.g 43 37 rfl rfl rfl rfl rfl rfl rfl [(39, _), (42, _)] (fun h => And.intro (.inr ⟨_, rfl, h⟩) (And.intro (.inr ⟨_, rfl, h⟩) (trivial))) (fun h => (OpJ.eqBool rfl rfl rfl un4)) ?_
      refine AList.c 44 rfl rfl rfl (OpJ.and_ rfl rfl rfl ?_) ?_
      · first | (intro h; rw [h]; rfl) | (intro h; simp_all)
      refine AList.c 45 rfl rfl rfl (OpJ.move rfl rfl) ?_
      refine AList.g 46 45 rfl rfl rfl rfl rfl rfl rfl [] (fun h => trivial) (fun h => (OpJ.callP (alive_ok) rfl rfl rfl rfl rf14)) ?_
      refine AList.c 47 rfl rfl rfl (OpJ.and_ rfl rfl rfl ?_) ?_
      · first | (intro h; rw [h]; rfl) | (intro h; simp_all)
      refine AList.c 6 rfl rfl rfl (OpJ.assign rfl rfl) ?_
      refine AList.nil ?_
      refine AWp.ret ?_
      refine Fin.oneE rfl rfl ?_
      have h3 : decide ((blackR c l).2 = 1) = !decide (okC c) := by rw [← decide_not]; exact decide_eq_decide.2 hE.2
      simp [hE.1, h3]
    · skip
      have e : (blackR c l).2 = 0 := by simpa using hc1
      have hO := blackR_ok e
      have hb := hO.ob
      rw [blackR_fst e]
      refine AWp.skip ?_
      refine AWp.seq ?_
      refine AWp.seq ?_
      refine AWp.region ?_
      refine AList.c 48 rfl rfl rfl (OpJ.load rfl rfl ty22 rfl) ?_
      refine AList.c 49 rfl rfl rfl (OpJ.callP (rcurve_ok c hcb) rfl rfl rfl rfl rf28) ?_
      refine AList.c 50 rfl rfl rfl (OpJ.not_ rfl rfl) ?_
      refine AList.c 51 rfl rfl rfl (OpJ.move rfl rfl) ?_
      refine AList.g 52 51 rfl rfl rfl rfl rfl rfl rfl [(4, _)] (fun h => And.intro (.inl rfl) (trivial)) (fun h => (OpJ.load (v := .p (ldV l)) rfl rfl ty28 rfl)) ?_
      refine AList.g 53 51 rfl rfl rfl rfl rfl rfl rfl [(52, _)] (fun h => And.intro (.inr ⟨_, rfl, h⟩) (trivial)) (fun h => (OpJ.callP (rleads_ok l hs) rfl rfl rfl rfl rf29)) ?_
      refine AList.g 54 51 rfl rfl rfl rfl rfl rfl rfl [(53, _)] (fun h => And.intro (.inr ⟨_, rfl, h⟩) (trivial)) (fun h => (OpJ.not_ rfl rfl)) ?_
      refine AList.c 55 rfl rfl rfl (OpJ.or_ rfl rfl rfl ?_) ?_
      · first | (intro h; rw [h]; rfl) | (intro h; simp_all)
      refine AList.c 56 rfl rfl rfl (OpJ.move rfl rfl) ?_
      refine AList.g 57 56 rfl rfl rfl rfl rfl rfl rfl [(7, _)] (fun h => And.intro (.inl rfl) (trivial)) (fun h => (OpJ.fieldAddr rfl rfl fd25_0 rfl)) ?_
      refine AList.g 58 56 rfl rfl rfl rfl rfl rfl rfl [(57, _)] (fun h => And.intro (.inr ⟨_, rfl, h⟩) (trivial)) (fun h => (OpJ.load rfl rfl ty3 rfl)) ?_
      refine AList.g 59 56 rfl rfl rfl rfl rfl rfl rfl [(58, _)] (fun h => And.intro (.inr ⟨_, rfl, h⟩) (trivial)) (fun h => (OpJ.lss rfl rfl rfl)) ?_
      refine AList.c 60 rfl rfl rfl (OpJ.or_ rfl rfl rfl ?_) ?_
      · first | (intro h; rw [h]; rfl) | (intro h; simp_all)
      refine AList.c 61 rfl rfl rfl (OpJ.move rfl rfl) ?_
      refine AList.g 62 61 rfl rfl rfl rfl rfl rfl rfl [(7, _)] (fun h => And.intro (.inl rfl) (trivial)) (fun h => (OpJ.fieldAddr rfl rfl fd25_0 rfl)) ?_
      refine AList.g 63 61 rfl rfl rfl rfl rfl rfl rfl [(62, _)] (fun h => And.intro (.inr ⟨_, rfl, h⟩) (trivial)) (fun h => (OpJ.load rfl rfl ty3 rfl)) ?_
      refine AList.g 64 61 rfl rfl rfl rfl rfl rfl rfl [(7, _)] (fun h => And.intro (.inl rfl) (trivial)) (fun h => (OpJ.fieldAddr rfl rfl fd25_1 rfl)) ?_
      refine AList.g 65 61 rfl rfl rfl rfl rfl rfl rfl [(64, _)] (fun h => And.intro (.inr ⟨_, rfl, h⟩) (trivial)) (fun h => (OpJ.load rfl rfl ty3 rfl)) ?_
      refine AList.g 66 61 rfl rfl rfl rfl rfl rfl rfl [(63, _), (65, _)] (fun h => And.intro (.inr ⟨_, rfl, h⟩) (And.intro (.inr ⟨_, rfl, h⟩) (trivial))) (fun h => (OpJ.gtr rfl rfl rfl)) ?_
      refine AList.c 67 rfl rfl rfl (OpJ.or_ rfl rfl rfl ?_) ?_
      · first | (intro h; rw [h]; rfl) | (intro h; simp_all)
      refine AList.c 68 rfl rfl rfl (OpJ.move rfl rfl) ?_
      refine AList.g 69 68 rfl rfl rfl rfl rfl rfl rfl [(7, _)] (fun h => And.intro (.inl rfl) (trivial)) (fun h => (OpJ.fieldAddr rfl rfl fd25_1 rfl)) ?_
      refine AList.g 70 68 rfl rfl rfl rfl rfl rfl rfl [(69, _)] (fun h => And.intro (.inr ⟨_, rfl, h⟩) (trivial)) (fun h => (OpJ.load rfl rfl ty3 rfl)) ?_
      refine AList.g 71 68 rfl rfl rfl rfl rfl rfl rfl [(70, _)] (fun h => And.intro (.inr ⟨_, rfl, h⟩) (trivial)) (fun h => (OpJ.gtr rfl rfl rfl)) ?_
      refine AList.c 72 rfl rfl rfl (OpJ.or_ rfl rfl rfl ?_) ?_
      · first | (intro h; rw [h]; rfl) | (intro h; simp_all)
      refine AList.nil ?_
      refine AWp.cond _ rfl (fun hc2 => ?_) (fun hc2 => ?_)
      · skip
        rw [decide_eq_true hO.oc, (ldB_iff l).2 hO.ol] at hc2
        simp at hc2
        omega
      · skip
        have hq1 := ((holds_iff hO.oc hO.ol (blk c l).1).2 ⟨by omega, by omega⟩).2
        have hq2 := ((holds_iff hO.oc hO.ol (blk c l).2).2 ⟨by omega, by omega⟩).2
        have hq3 := ((holds_iff hO.oc hO.ol (((blk c l).1 + (blk c l).2) / 2)).2 ⟨by omega, by omega⟩).2
        have hq4 : 0 < (blk c l).1 → ¬ holdsI c l ((blk c l).1 - 1) := fun h h2 => by have := (holds_iff hO.oc hO.ol ((blk c l).1 - 1)).1 ⟨by omega, h2⟩; omega
        have hq5 : (blk c l).2 < 200 → ¬ holdsI c l ((blk c l).2 + 1) := fun h h2 => by have := (holds_iff hO.oc hO.ol ((blk c l).2 + 1)).1 ⟨by omega, h2⟩; omega
        have hdv := divB (a := (blk c l).1 + (blk c l).2) (b := 2) (by omega) (by omega)
        refine AWp.skip ?_
        refine AWp.seq ?_
        refine AWp.region ?_
        refine AList.c 73 rfl rfl rfl (OpJ.makeFunc rfl rfl rfl) ?_
        refine AList.c 9 rfl rfl rfl (OpJ.assign rfl rfl) ?_
        refine AList.nil ?_
        refine AWp.seq ?_
        refine AWp.seq ?_
        refine AWp.region ?_
        refine AList.c 74 rfl rfl rfl (OpJ.move rfl rfl) ?_
        refine AList.c 75 rfl rfl rfl (OpJ.fieldAddr rfl rfl fd25_0 rfl) ?_
        refine AList.c 76 rfl rfl rfl (OpJ.load rfl rfl ty3 rfl) ?_
        refine AList.c 77 rfl rfl rfl (OpJ.callF (holdsF c l _ hO.oc hO.ol (by omega) (by omega)) rfl rfl rfl) ?_
        refine AList.c 78 rfl rfl rfl (OpJ.not_ rfl rfl) ?_
        refine AList.c 79 rfl rfl rfl (OpJ.move rfl rfl) ?_
        refine AList.g 80 79 rfl rfl rfl rfl rfl rfl rfl [(9, _)] (fun h => And.intro (.inl rfl) (trivial)) (fun h => (OpJ.move rfl rfl)) ?_
        refine AList.g 81 79 rfl rfl rfl rfl rfl rfl rfl [(7, _)] (fun h => And.intro (.inl rfl) (trivial)) (fun h => (OpJ.fieldAddr rfl rfl fd25_1 rfl)) ?_
        refine AList.g 82 79 rfl rfl rfl rfl rfl rfl rfl [(81, _)] (fun h => And.intro (.inr ⟨_, rfl, h⟩) (trivial)) (fun h => (OpJ.load rfl rfl ty3 rfl)) ?_
        refine AList.g 83 79 rfl rfl rfl rfl rfl rfl rfl [(80, _), (82, _)] (fun h => And.intro (.inr ⟨_, rfl, h⟩) (And.intro (.inr ⟨_, rfl, h⟩) (trivial))) (fun h => (OpJ.callF (holdsF c l _ hO.oc hO.ol (by omega) (by omega)) rfl rfl rfl)) ?_
        refine AList.g 84 79 rfl rfl rfl rfl rfl rfl rfl [(83, _)] (fun h => And.intro (.inr ⟨_, rfl, h⟩) (trivial)) (fun h => (OpJ.not_ rfl rfl)) ?_
        refine AList.c 85 rfl rfl rfl (OpJ.or_ rfl rfl rfl ?_) ?_
        · first | (intro h; rw [h]; rfl) | (intro h; simp_all)
        refine AList.c 86 rfl rfl rfl (OpJ.move rfl rfl) ?_
        refine AList.g 87 86 rfl rfl rfl rfl rfl rfl rfl [(9, _)] (fun h => And.intro (.inl rfl) (trivial)) (fun h => (OpJ.move rfl rfl)) ?_
        refine AList.g 88 86 rfl rfl rfl rfl rfl rfl rfl [(7, _)] (fun h => And.intro (.inl rfl) (trivial)) (fun h => (OpJ.fieldAddr rfl rfl fd25_0 rfl)) ?_
        refine AList.g 89 86 rfl rfl rfl rfl rfl rfl rfl [(88, _)] (fun h => And.intro (.inr ⟨_, rfl, h⟩) (trivial)) (fun h => (OpJ.load rfl rfl ty3 rfl)) ?_
        refine AList.g 90 86 rfl rfl rfl rfl rfl rfl rfl [(7, _)] (fun h => And.intro (.inl rfl) (trivial)) (fun h => (OpJ.fieldAddr rfl rfl fd25_1 rfl)) ?_
        refine AList.g 91 86 rfl rfl rfl rfl rfl rfl rfl [(90, _)] (fun h => And.intro (.inr ⟨_, rfl, h⟩) (trivial)) (fun h => (OpJ.load rfl rfl ty3 rfl)) ?_
        refine AList.g 92 86 rfl rfl rfl rfl rfl rfl rfl [(89, _), (91, _)] (fun h => And.intro (.inr ⟨_, rfl, h⟩) (And.intro (.inr ⟨_, rfl, h⟩) (trivial))) (fun h => (OpJ.add rfl rfl rfl (i64ok (by omega)))) ?_
        refine AList.g 93 86 rfl rfl rfl rfl rfl rfl rfl [(92, _)] (fun h => And.intro (.inr ⟨_, rfl, h⟩) (trivial)) (fun h => (OpJ.quo (m := ((blk c l).1 + (blk c l).2) / 2) rfl rfl rfl (by decide) ((i64ok (by rw [hdv.1]; omega)).trans hdv.1))) ?_
        refine AList.g 94 86 rfl rfl rfl rfl rfl rfl rfl [(87, _), (93, _)] (fun h => And.intro (.inr ⟨_, rfl, h⟩) (And.intro (.inr ⟨_, rfl, h⟩) (trivial))) (fun h => (OpJ.callF (holdsF c l _ hO.oc hO.ol (by omega) (by omega)) rfl rfl rfl)) ?_
        refine AList.g 95 86 rfl rfl rfl rfl rfl rfl rfl [(94, _)] (fun h => And.intro (.inr ⟨_, rfl, h⟩) (trivial)) (fun h => (OpJ.not_ rfl rfl)) ?_
        refine AList.c 96 rfl rfl rfl (OpJ.or_ rfl rfl rfl ?_) ?_
        · first | (intro h; rw [h]; rfl) | (intro h; simp_all)
        refine AList.c 97 rfl rfl rfl (OpJ.move rfl rfl) ?_
        refine AList.g 98 97 rfl rfl rfl rfl rfl rfl rfl [(7, _)] (fun h => And.intro (.inl rfl) (trivial)) (fun h => (OpJ.fieldAddr rfl rfl fd25_0 rfl)) ?_
        refine AList.g 99 97 rfl rfl rfl rfl rfl rfl rfl [(98, _)] (fun h => And.intro (.inr ⟨_, rfl, h⟩) (trivial)) (fun h => (OpJ.load rfl rfl ty3 rfl)) ?_
        refine AList.g 100 97 rfl rfl rfl rfl rfl rfl rfl [(99, _)] (fun h => And.intro (.inr ⟨_, rfl, h⟩) (trivial)) (fun h => (OpJ.gtr rfl rfl rfl)) ?_
        refine AList.g 101 97 rfl rfl rfl rfl rfl rfl rfl [(100, _)] (fun h => And.intro (.inr ⟨_, rfl, h⟩) (trivial)) (fun h => (OpJ.move rfl rfl)) ?_
        refine AList.g 102 101 rfl rfl rfl rfl rfl rfl rfl [(9, _)] (fun h => And.intro (.inl rfl) (trivial)) (fun h => (OpJ.move rfl rfl)) ?_
        refine AList.g 103 101 rfl rfl rfl rfl rfl rfl rfl [(7, _)] (fun h => And.intro (.inl rfl) (trivial)) (fun h => (OpJ.fieldAddr rfl rfl fd25_0 rfl)) ?_
        refine AList.g 104 101 rfl rfl rfl rfl rfl rfl rfl [(103, _)] (fun h => And.intro (.inr ⟨_, rfl, h⟩) (trivial)) (fun h => (OpJ.load rfl rfl ty3 rfl)) ?_
        refine AList.g 105 101 rfl rfl rfl rfl rfl rfl rfl [(104, _)] (fun h => And.intro (.inr ⟨_, rfl, h⟩) (trivial)) (fun h => (OpJ.sub_ rfl rfl rfl (i64ok (by omega)))) ?_
        refine AList.g 106 101 rfl rfl rfl rfl rfl rfl rfl [(102, _), (105, _)] (fun h => And.intro (.inr ⟨_, rfl, h⟩) (And.intro (.inr ⟨_, rfl, h⟩) (trivial))) (fun h => (OpJ.callF (holdsF c l _ hO.oc hO.ol (by omega) (by omega)) rfl rfl rfl)) ?_
        refine AList.g 107 97 rfl rfl rfl rfl rfl rfl rfl [(101, _), (106, _)] (fun h => And.intro (.inr ⟨_, rfl, h⟩) (And.intro (.inl rfl) (trivial))) (fun h => (OpJ.and_ rfl rfl rfl ?_)) ?_
        · first | (intro h; rw [h]; rfl) | (intro h; simp_all)
        refine AList.c 108 rfl rfl rfl (OpJ.or_ rfl rfl rfl ?_) ?_
        · first | (intro h; rw [h]; rfl) | (intro h; simp_all)
        refine AList.c 109 rfl rfl rfl (OpJ.move rfl rfl) ?_
        refine AList.g 110 109 rfl rfl rfl rfl rfl rfl rfl [(7, _)] (fun h => And.intro (.inl rfl) (trivial)) (fun h => (OpJ.fieldAddr rfl rfl fd25_1 rfl)) ?_
        refine AList.g 111 109 rfl rfl rfl rfl rfl rfl rfl [(110, _)] (fun h => And.intro (.inr ⟨_, rfl, h⟩) (trivial)) (fun h => (OpJ.load rfl rfl ty3 rfl)) ?_
        refine AList.g 112 109 rfl rfl rfl rfl rfl rfl rfl [(111, _)] (fun h => And.intro (.inr ⟨_, rfl, h⟩) (trivial)) (fun h => (OpJ.lss rfl rfl rfl)) ?_
        refine AList.g 113 109 rfl rfl rfl rfl rfl rfl rfl [(112, _)] (fun h => And.intro (.inr ⟨_, rfl, h⟩) (trivial)) (fun h => (OpJ.move rfl rfl)) ?_
        refine AList.g 114 113 rfl rfl rfl rfl rfl rfl rfl [(9, _)] (fun h => And.intro (.inl rfl) (trivial)) (fun h => (OpJ.move rfl rfl)) ?_
        refine AList.g 115 113 rfl rfl rfl rfl rfl rfl rfl [(7, _)] (fun h => And.intro (.inl rfl) (trivial)) (fun h => (OpJ.fieldAddr rfl rfl fd25_1 rfl)) ?_
        refine AList.g 116 113 rfl rfl rfl rfl rfl rfl rfl [(115, _)] (fun h => And.intro (.inr ⟨_, rfl, h⟩) (trivial)) (fun h => (OpJ.load rfl rfl ty3 rfl)) ?_
        refine AList.g 117 113 rfl rfl rfl rfl rfl rfl rfl [(116, _)] (fun h => And.intro (.inr ⟨_, rfl, h⟩) (trivial)) (fun h => (OpJ.add rfl rfl rfl (i64ok (by omega)))) ?_
        refine AList.g 118 113 rfl rfl rfl rfl rfl rfl rfl [(114, _), (117, _)] (fun h => And.intro (.inr ⟨_, rfl, h⟩) (And.intro (.inr ⟨_, rfl, h⟩) (trivial))) (fun h => (OpJ.callF (holdsF c l _ hO.oc hO.ol (by omega) (by omega)) rfl rfl rfl)) ?_
        refine AList.g 119 109 rfl rfl rfl rfl rfl rfl rfl [(113, _), (118, _)] (fun h => And.intro (.inr ⟨_, rfl, h⟩) (And.intro (.inl rfl) (trivial))) (fun h => (OpJ.and_ rfl rfl rfl ?_)) ?_
        · first | (intro h; rw [h]; rfl) | (intro h; simp_all)
        refine AList.c 120 rfl rfl rfl (OpJ.or_ rfl rfl rfl ?_) ?_
        · first | (intro h; rw [h]; rfl) | (intro h; simp_all)
        refine AList.nil ?_
        refine AWp.cond _ rfl (fun hc3 => ?_) (fun hc3 => ?_)
        · skip
          exfalso
          simp [hq1, hq2, hq3] at hc3
          rcases hc3 with h | h
          · exact hq4 h.1 h.2
          · exact hq5 h.1 h.2
        · skip
          refine AWp.skip ?_
          refine AWp.seq ?_
          refine AWp.region ?_
          refine AList.c 122 rfl rfl rfl (OpJ.load rfl rfl ty22 rfl) ?_
          refine AList.c 123 rfl rfl rfl (OpJ.move rfl rfl) ?_
          refine AList.c 124 rfl rfl rfl (OpJ.load (v := .p (ldV l)) rfl rfl ty28 rfl) ?_
          refine AList.c 125 rfl rfl rfl (OpJ.callP (has_R c s l hcb hsl hs) rfl rfl rfl rfl rf17) ?_
          refine AList.c 121 rfl rfl rfl (OpJ.move rfl rfl) ?_
          refine AList.c 126 rfl rfl rfl (OpJ.extract rfl rfl rfl) ?_
          refine AList.c 127 rfl rfl rfl (OpJ.extract rfl rfl rfl) ?_
          refine AList.c 10 rfl rfl rfl (OpJ.assign rfl rfl) ?_
          refine AList.c 11 rfl rfl rfl (OpJ.assign rfl rfl) ?_
          refine AList.nil ?_
          refine AWp.seq ?_
          refine AWp.seq ?_
          refine AWp.region ?_
          refine AList.c 128 rfl rfl rfl (OpJ.move rfl rfl) ?_
          refine AList.c 129 rfl rfl rfl (OpJ.neq rfl rfl rfl) ?_
          refine AList.nil ?_
          refine AWp.cond _ rfl (fun hc4 => ?_) (fun hc4 => ?_)
          · skip
            have e4 : (hasR c s l).2 ≠ 0 := by simpa using hc4
            have eH := hasR_err e4
            refine AWp.seq ?_
            refine AWp.region ?_
            refine AList.c 130 rfl rfl rfl (OpJ.move rfl rfl) ?_
            refine AList.c 131 rfl rfl rfl (OpJ.lenSlice rfl rfl sl34 rfl) ?_
            refine AList.c 132 rfl rfl rfl (OpJ.eql rfl rfl rfl) ?_
            refine AList.c 133 rfl rfl rfl (OpJ.move rfl rfl) ?_
            refine AList.g 134 133 rfl rfl rfl rfl rfl rfl rfl [] (fun h => trivial) (fun h => (OpJ.callP (alive_ok) rfl rfl rfl rfl rf14)) ?_
            refine AList.c 135 rfl rfl rfl (OpJ.and_ rfl rfl rfl ?_) ?_
            · first | (intro h; rw [h]; rfl) | (intro h; simp_all)
            refine AList.c 6 rfl rfl rfl (OpJ.assign rfl rfl) ?_
            refine AList.nil ?_
            refine AWp.ret ?_
            refine Fin.oneE rfl rfl ?_
            simp [eH]
          · skip
            have e4 : (hasR c s l).2 = 0 := by simpa using hc4
            rw [hasR_zero e4]
            have il2 := idxs_len (fun i => hasQ c (sh s i) l) s.length
            refine AWp.skip ?_
            refine AWp.seq ?_
            refine AWp.region ?_
            refine AList.c 12 rfl rfl rfl (OpJ.assign rfl rfl) ?_
            refine AList.nil ?_
            refine AWp.seq ?_
            refine AWp.seq ?_
            refine AWp.region ?_
            refine AList.c 136 rfl rfl rfl (OpJ.move rfl rfl) ?_
            refine AList.c 137 rfl rfl rfl (OpJ.lenSlice rfl rfl sl23 rfl) ?_
            refine AList.c 138 rfl rfl rfl (OpJ.move rfl rfl) ?_
            refine AList.nil ?_
            refine AWp.block ?_
            refine AWp.loopHL [4, 7, 10, 136, 137, 214, 215, 216, 217, 218, 219, 220] (fun g => [(138, .p (.int .i64 ((g : Nat) : Int))), (12, .p (.int .i64 ((idxs (fun i => hasQ c (sh s i) l) g).length : Int)))]) (fun g => [.cells [.p (.int .i64 (blk c l).1), .p (.int .i64 (blk c l).2)] 25]) (fun g => g ≤ s.length) (fun g => s.length - g) 0 (Nat.zero_le _) (To.sub (Sub.chk (Sub.cons rfl (Sub.cons rfl (Sub.nil))))) (fun i hg => ?_)
            refine AWp.seq ?_
            refine AWp.region ?_
            refine AList.c 139 rfl rfl rfl (OpJ.lss rfl rfl rfl) ?_
            refine AList.nil ?_
            refine AWp.seq ?_
            refine AWp.cond _ rfl (fun hc5 => ?_) (fun hc5 => ?_)
            · skip
              have hk0 : i < s.length := by have h := of_decide_eq_true hc5; omega
              have il := idxs_len (fun i => hasQ c (sh s i) l) i
              refine AWp.skip ?_
              refine AWp.seq ?_
              refine AWp.block ?_
              refine AWp.seq ?_
              refine AWp.region ?_
              refine AList.c 140 rfl rfl rfl (OpJ.move rfl rfl) ?_
              refine AList.c 141 rfl rfl rfl (OpJ.indexG (g := sh s) (fun _ h => sh_get h) rfl rfl rfl sl23 el23 rfl (fun _ => rfl) (by decide) hk0) ?_
              refine AList.c 142 rfl rfl rfl (OpJ.load (v := .p (.agg (sh s i).cells)) rfl rfl ty66 rfl) ?_
              refine AList.c 14 rfl rfl rfl (OpJ.allocOwn rfl zr66 rfl) ?_
              refine AList.c 13 rfl rfl rfl (OpJ.assign rfl rfl) ?_
              refine AList.c0 rfl rfl (OpJ.store (H' := [.cells [.p (.int .i64 (blk c l).1), .p (.int .i64 (blk c l).2)] 25, .cells ((sh s i).cells.map .p) 66]) rfl rfl rfl rfl rfl ty66 rfl rfl) ?_
              refine AList.nil ?_
              refine AWp.seq ?_
              refine AWp.region ?_
              refine AList.c 143 rfl rfl rfl (OpJ.fieldAddr rfl rfl fd25_0 rfl) ?_
              refine AList.c 144 rfl rfl rfl (OpJ.load rfl rfl ty3 rfl) ?_
              refine AList.c 145 rfl rfl rfl (OpJ.fieldAddr rfl rfl fd66_0 rfl) ?_
              refine AList.c 146 rfl rfl rfl (OpJ.fieldAddr rfl rfl fd25_0 rfl) ?_
              refine AList.c 147 rfl rfl rfl (OpJ.load rfl rfl ty3 rfl) ?_
              refine AList.c 148 rfl rfl rfl (OpJ.lss rfl rfl rfl) ?_
              refine AList.c 149 rfl rfl rfl (OpJ.move rfl rfl) ?_
              refine AList.g 150 149 rfl rfl rfl rfl rfl rfl rfl [(7, _)] (fun h => And.intro (.inl rfl) (trivial)) (fun h => (OpJ.fieldAddr rfl rfl fd25_1 rfl)) ?_
              refine AList.g 151 149 rfl rfl rfl rfl rfl rfl rfl [(150, _)] (fun h => And.intro (.inr ⟨_, rfl, h⟩) (trivial)) (fun h => (OpJ.load rfl rfl ty3 rfl)) ?_
              refine AList.g 152 149 rfl rfl rfl rfl rfl rfl rfl [(14, _)] (fun h => And.intro (.inl rfl) (trivial)) (fun h => (OpJ.fieldAddr rfl rfl fd66_0 rfl)) ?_
              refine AList.g 153 149 rfl rfl rfl rfl rfl rfl rfl [(152, _)] (fun h => And.intro (.inr ⟨_, rfl, h⟩) (trivial)) (fun h => (OpJ.fieldAddr rfl rfl fd25_1 rfl)) ?_
              refine AList.g 154 149 rfl rfl rfl rfl rfl rfl rfl [(153, _)] (fun h => And.intro (.inr ⟨_, rfl, h⟩) (trivial)) (fun h => (OpJ.load rfl rfl ty3 rfl)) ?_
              refine AList.g 155 149 rfl rfl rfl rfl rfl rfl rfl [(151, _), (154, _)] (fun h => And.intro (.inr ⟨_, rfl, h⟩) (And.intro (.inr ⟨_, rfl, h⟩) (trivial))) (fun h => (OpJ.gtr rfl rfl rfl)) ?_
              refine AList.c 156 rfl rfl rfl (OpJ.or_ rfl rfl rfl ?_) ?_
              · first | (intro h; rw [h]; rfl) | (intro h; simp_all)
              refine AList.c 157 rfl rfl rfl (OpJ.move rfl rfl) ?_
              refine AList.g 158 157 rfl rfl rfl rfl rfl rfl rfl [(4, _)] (fun h => And.intro (.inl rfl) (trivial)) (fun h => (OpJ.fieldAddr rfl rfl fd28_4 rfl)) ?_
              refine AList.g 159 157 rfl rfl rfl rfl rfl rfl rfl [(158, _)] (fun h => And.intro (.inr ⟨_, rfl, h⟩) (trivial)) (fun h => (OpJ.fieldAddr rfl rfl fd25_0 rfl)) ?_
              refine AList.g 160 157 rfl rfl rfl rfl rfl rfl rfl [(159, _)] (fun h => And.intro (.inr ⟨_, rfl, h⟩) (trivial)) (fun h => (OpJ.load rfl rfl ty3 rfl)) ?_
              refine AList.g 161 157 rfl rfl rfl rfl rfl rfl rfl [(14, _)] (fun h => And.intro (.inl rfl) (trivial)) (fun h => (OpJ.fieldAddr rfl rfl fd66_1 rfl)) ?_
              refine AList.g 162 157 rfl rfl rfl rfl rfl rfl rfl [(161, _)] (fun h => And.intro (.inr ⟨_, rfl, h⟩) (trivial)) (fun h => (OpJ.fieldAddr rfl rfl fd25_0 rfl)) ?_
              refine AList.g 163 157 rfl rfl rfl rfl rfl rfl rfl [(162, _)] (fun h => And.intro (.inr ⟨_, rfl, h⟩) (trivial)) (fun h => (OpJ.load rfl rfl ty3 rfl)) ?_
              refine AList.g 164 157 rfl rfl rfl rfl rfl rfl rfl [(160, _), (163, _)] (fun h => And.intro (.inr ⟨_, rfl, h⟩) (And.intro (.inr ⟨_, rfl, h⟩) (trivial))) (fun h => (OpJ.lss rfl rfl rfl)) ?_
              refine AList.c 165 rfl rfl rfl (OpJ.or_ rfl rfl rfl ?_) ?_
              · first | (intro h; rw [h]; rfl) | (intro h; simp_all)
              refine AList.c 166 rfl rfl rfl (OpJ.move rfl rfl) ?_
              refine AList.g 167 166 rfl rfl rfl rfl rfl rfl rfl [(4, _)] (fun h => And.intro (.inl rfl) (trivial)) (fun h => (OpJ.fieldAddr rfl rfl fd28_4 rfl)) ?_
              refine AList.g 168 166 rfl rfl rfl rfl rfl rfl rfl [(167, _)] (fun h => And.intro (.inr ⟨_, rfl, h⟩) (trivial)) (fun h => (OpJ.fieldAddr rfl rfl fd25_1 rfl)) ?_
              refine AList.g 169 166 rfl rfl rfl rfl rfl rfl rfl [(168, _)] (fun h => And.intro (.inr ⟨_, rfl, h⟩) (trivial)) (fun h => (OpJ.load rfl rfl ty3 rfl)) ?_
              refine AList.g 170 166 rfl rfl rfl rfl rfl rfl rfl [(14, _)] (fun h => And.intro (.inl rfl) (trivial)) (fun h => (OpJ.fieldAddr rfl rfl fd66_1 rfl)) ?_
              refine AList.g 171 166 rfl rfl rfl rfl rfl rfl rfl [(170, _)] (fun h => And.intro (.inr ⟨_, rfl, h⟩) (trivial)) (fun h => (OpJ.fieldAddr rfl rfl fd25_1 rfl)) ?_
              refine AList.g 172 166 rfl rfl rfl rfl rfl rfl rfl [(171, _)] (fun h => And.intro (.inr ⟨_, rfl, h⟩) (trivial)) (fun h => (OpJ.load rfl rfl ty3 rfl)) ?_
              refine AList.g 173 166 rfl rfl rfl rfl rfl rfl rfl [(169, _), (172, _)] (fun h => And.intro (.inr ⟨_, rfl, h⟩) (And.intro (.inr ⟨_, rfl, h⟩) (trivial))) (fun h => (OpJ.gtr rfl rfl rfl)) ?_
              refine AList.c 174 rfl rfl rfl (OpJ.or_ rfl rfl rfl ?_) ?_
              · first | (intro h; rw [h]; rfl) | (intro h; simp_all)
              refine AList.c 175 rfl rfl rfl (OpJ.move rfl rfl) ?_
              refine AList.g 176 175 rfl rfl rfl rfl rfl rfl rfl [(4, _)] (fun h => And.intro (.inl rfl) (trivial)) (fun h => (OpJ.fieldAddr rfl rfl fd28_5 rfl)) ?_
              refine AList.g 177 175 rfl rfl rfl rfl rfl rfl rfl [(176, _)] (fun h => And.intro (.inr ⟨_, rfl, h⟩) (trivial)) (fun h => (OpJ.fieldAddr rfl rfl fd25_0 rfl)) ?_
              refine AList.g 178 175 rfl rfl rfl rfl rfl rfl rfl [(177, _)] (fun h => And.intro (.inr ⟨_, rfl, h⟩) (trivial)) (fun h => (OpJ.load rfl rfl ty3 rfl)) ?_
              refine AList.g 179 175 rfl rfl rfl rfl rfl rfl rfl [(14, _)] (fun h => And.intro (.inl rfl) (trivial)) (fun h => (OpJ.fieldAddr rfl rfl fd66_2 rfl)) ?_
              refine AList.g 180 175 rfl rfl rfl rfl rfl rfl rfl [(179, _)] (fun h => And.intro (.inr ⟨_, rfl, h⟩) (trivial)) (fun h => (OpJ.fieldAddr rfl rfl fd25_0 rfl)) ?_
              refine AList.g 181 175 rfl rfl rfl rfl rfl rfl rfl [(180, _)] (fun h => And.intro (.inr ⟨_, rfl, h⟩) (trivial)) (fun h => (OpJ.load rfl rfl ty3 rfl)) ?_
              refine AList.g 182 175 rfl rfl rfl rfl rfl rfl rfl [(178, _), (181, _)] (fun h => And.intro (.inr ⟨_, rfl, h⟩) (And.intro (.inr ⟨_, rfl, h⟩) (trivial))) (fun h => (OpJ.lss rfl rfl rfl)) ?_
              refine AList.c 183 rfl rfl rfl (OpJ.or_ rfl rfl rfl ?_) ?_
              · first | (intro h; rw [h]; rfl) | (intro h; simp_all)
              refine AList.c 184 rfl rfl rfl (OpJ.move rfl rfl) ?_
              refine AList.g 185 184 rfl rfl rfl rfl rfl rfl rfl [(4, _)] (fun h => And.intro (.inl rfl) (trivial)) (fun h => (OpJ.fieldAddr rfl rfl fd28_5 rfl)) ?_
              refine AList.g 186 184 rfl rfl rfl rfl rfl rfl rfl [(185, _)] (fun h => And.intro (.inr ⟨_, rfl, h⟩) (trivial)) (fun h => (OpJ.fieldAddr rfl rfl fd25_1 rfl)) ?_
              refine AList.g 187 184 rfl rfl rfl rfl rfl rfl rfl [(186, _)] (fun h => And.intro (.inr ⟨_, rfl, h⟩) (trivial)) (fun h => (OpJ.load rfl rfl ty3 rfl)) ?_
              refine AList.g 188 184 rfl rfl rfl rfl rfl rfl rfl [(14, _)] (fun h => And.intro (.inl rfl) (trivial)) (fun h => (OpJ.fieldAddr rfl rfl fd66_2 rfl)) ?_
              refine AList.g 189 184 rfl rfl rfl rfl rfl rfl rfl [(188, _)] (fun h => And.intro (.inr ⟨_, rfl, h⟩) (trivial)) (fun h => (OpJ.fieldAddr rfl rfl fd25_1 rfl)) ?_
              refine AList.g 190 184 rfl rfl rfl rfl rfl rfl rfl [(189, _)] (fun h => And.intro (.inr ⟨_, rfl, h⟩) (trivial)) (fun h => (OpJ.load rfl rfl ty3 rfl)) ?_
              refine AList.g 191 184 rfl rfl rfl rfl rfl rfl rfl [(187, _), (190, _)] (fun h => And.intro (.inr ⟨_, rfl, h⟩) (And.intro (.inr ⟨_, rfl, h⟩) (trivial))) (fun h => (OpJ.gtr rfl rfl rfl)) ?_
              refine AList.c 192 rfl rfl rfl (OpJ.or_ rfl rfl rfl ?_) ?_
              · first | (intro h; rw [h]; rfl) | (intro h; simp_all)
              refine AList.c 15 rfl rfl rfl (OpJ.assign rfl rfl) ?_
              refine AList.nil ?_
              refine AWp.seq ?_
              refine AWp.seq ?_
              refine AWp.region ?_
              refine AList.c 193 rfl rfl rfl (OpJ.move rfl rfl) ?_
              refine AList.c 194 rfl rfl rfl (OpJ.not_ rfl rfl) ?_
              refine AList.c 195 rfl rfl rfl (OpJ.move rfl rfl) ?_
              refine AList.g 196 195 rfl rfl rfl rfl rfl rfl rfl [(12, _)] (fun h => And.intro (.inl rfl) (trivial)) (fun h => (OpJ.move rfl rfl)) ?_
              refine AList.g 197 195 rfl rfl rfl rfl rfl rfl rfl [(10, _)] (fun h => And.intro (.inl rfl) (trivial)) (fun h => (OpJ.move rfl rfl)) ?_
              refine AList.g 198 195 rfl rfl rfl rfl rfl rfl rfl [(197, _)] (fun h => And.intro (.inr ⟨_, rfl, h⟩) (trivial)) (fun h => (OpJ.lenSlice rfl rfl sl34 rfl)) ?_
              refine AList.g 199 195 rfl rfl rfl rfl rfl rfl rfl [(196, _), (198, _)] (fun h => And.intro (.inr ⟨_, rfl, h⟩) (And.intro (.inr ⟨_, rfl, h⟩) (trivial))) (fun h => (OpJ.geq rfl rfl rfl)) ?_
              refine AList.g 200 195 rfl rfl rfl rfl rfl rfl rfl [(199, _)] (fun h => And.intro (.inr ⟨_, rfl, h⟩) (trivial)) (fun h => (OpJ.move rfl rfl)) ?_
              refine AList.g 201 200 rfl rfl rfl rfl rfl rfl rfl [(10, _)] (fun h => And.intro (.inl rfl) (trivial)) (fun h => (OpJ.move rfl rfl)) ?_
              refine AList.g 202 200 rfl rfl rfl rfl rfl rfl rfl [(12, _)] (fun h => And.intro (.inl rfl) (trivial)) (fun h => (OpJ.move rfl rfl)) ?_
              refine AList.g 203 200 rfl rfl rfl rfl rfl rfl rfl [(201, _), (202, _)] (fun h => And.intro (.inr ⟨_, rfl, h⟩) (And.intro (.inr ⟨_, rfl, h⟩) (trivial))) (fun h => (OpJ.indexG (g := nt (idxs (fun i => hasQ c (sh s i) l) s.length)) (fun _ h => nt_get h) rfl rfl rfl sl34 el34 rfl (fun _ => rfl) (by decide) (by simp at h; omega))) ?_
              refine AList.g 204 200 rfl rfl rfl rfl rfl rfl rfl [(203, _)] (fun h => And.intro (.inr ⟨_, rfl, h⟩) (trivial)) (fun h => (OpJ.load rfl rfl ty3 rfl)) ?_
              refine AList.g 205 200 rfl rfl rfl rfl rfl rfl rfl [(13, _)] (fun h => And.intro (.inl rfl) (trivial)) (fun h => (OpJ.move rfl rfl)) ?_
              refine AList.g 206 200 rfl rfl rfl rfl rfl rfl rfl [(204, _), (205, _)] (fun h => And.intro (.inr ⟨_, rfl, h⟩) (And.intro (.inr ⟨_, rfl, h⟩) (trivial))) (fun h => (OpJ.neq rfl rfl rfl)) ?_
              refine AList.g 207 195 rfl rfl rfl rfl rfl rfl rfl [(200, _), (206, _)] (fun h => And.intro (.inr ⟨_, rfl, h⟩) (And.intro (.inl rfl) (trivial))) (fun h => (OpJ.or_ rfl rfl rfl ?_)) ?_
              · first | (intro h; rw [h]; rfl) | (intro h; simp_all)
              refine AList.c 208 rfl rfl rfl (OpJ.and_ rfl rfl rfl ?_) ?_
              · first | (intro h; rw [h]; rfl) | (intro h; simp_all)
              refine AList.nil ?_
              refine AWp.cond _ rfl (fun hc6 => ?_) (fun hc6 => ?_)
              · skip
                by_cases hQ : hasQ c (sh s i) l = true
                · have ha := idxs_at (p := (fun i => hasQ c (sh s i) l)) (i := i) (n := s.length) hQ hk0
                  have hq := of_decide_eq_true hQ
                  rw [ha.2] at hc6
                  simp at hc6
                  omega
                · have hq := of_decide_eq_false (Bool.eq_false_iff.2 hQ)
                  simp at hc6
                  omega
              · skip
                refine AWp.skip ?_
                refine AWp.seq ?_
                refine AWp.region ?_
                refine AList.c 209 rfl rfl rfl (OpJ.move rfl rfl) ?_
                refine AList.c 210 rfl rfl rfl (OpJ.not_ rfl rfl) ?_
                refine AList.nil ?_
                refine AWp.cond _ rfl (fun hc7 => ?_) (fun hc7 => ?_)
                · skip
                  have hQ : hasQ c (sh s i) l = true := decide_eq_true (by simp at hc7; omega)
                  refine AWp.region ?_
                  refine AList.c 211 rfl rfl rfl (OpJ.move rfl rfl) ?_
                  refine AList.c 212 rfl rfl rfl (OpJ.add (m := (((idxs (fun i => hasQ c (sh s i) l) i).length + 1 : Nat) : Int)) rfl rfl rfl ((i64ok ?_).trans ?_)) ?_
                  · omega
                  · omega
                  refine AList.c 12 rfl rfl rfl (OpJ.assign rfl rfl) ?_
                  refine AList.nil ?_
                  refine AWp.region ?_
                  refine AList.c 213 rfl rfl rfl (OpJ.add rfl rfl rfl (i64ok ?_)) ?_
                  · omega
                  refine AList.c 138 rfl rfl rfl (OpJ.move rfl rfl) ?_
                  refine AList.nil ?_
                  refine ⟨i + 1, ?_, ?_, ?_⟩
                  · omega
                  · omega
                  have eo : idxs (fun i => hasQ c (sh s i) l) (i + 1) = idxs (fun i => hasQ c (sh s i) l) i ++ [(i : Int)] := by simp only [idxs]; rw [if_pos hQ]
                  exact To.done [0] rfl (Sub.cons rfl (Sub.cons (by rw [eo, List.length_append]; rfl) (by repeat (first | exact Sub.nil | refine Sub.cons rfl ?_)))) rfl
                · skip
                  have hQ : hasQ c (sh s i) l = false := decide_eq_false (by simp at hc7; intro h; omega)
                  refine AWp.skip ?_
                  refine AWp.region ?_
                  refine AList.c 213 rfl rfl rfl (OpJ.add rfl rfl rfl (i64ok ?_)) ?_
                  · omega
                  refine AList.c 138 rfl rfl rfl (OpJ.move rfl rfl) ?_
                  refine AList.nil ?_
                  refine ⟨i + 1, ?_, ?_, ?_⟩
                  · omega
                  · omega
                  have eo : idxs (fun i => hasQ c (sh s i) l) (i + 1) = idxs (fun i => hasQ c (sh s i) l) i := by simp only [idxs]; rw [if_neg (by rw [hQ]; decide)]
                  exact To.done [0] rfl (Sub.cons rfl (Sub.cons (by rw [eo]; rfl) (by repeat (first | exact Sub.nil | refine Sub.cons rfl ?_)))) rfl
            · skip
              obtain rfl : s.length = i := by have h := of_decide_eq_false hc5; omega
              refine AWp.exit ?_
              refine AWp.seq ?_
              refine AWp.region ?_
              refine AList.c 214 rfl rfl rfl (OpJ.move rfl rfl) ?_
              refine AList.c 215 rfl rfl rfl (OpJ.move rfl rfl) ?_
              refine AList.c 216 rfl rfl rfl (OpJ.lenSlice rfl rfl sl34 rfl) ?_
              refine AList.c 217 rfl rfl rfl (OpJ.eql rfl rfl rfl) ?_
              refine AList.c 218 rfl rfl rfl (OpJ.move rfl rfl) ?_
              refine AList.g 219 218 rfl rfl rfl rfl rfl rfl rfl [] (fun h => trivial) (fun h => (OpJ.callP (alive_ok) rfl rfl rfl rfl rf14)) ?_
              refine AList.c 220 rfl rfl rfl (OpJ.and_ rfl rfl rfl ?_) ?_
              · first | (intro h; rw [h]; rfl) | (intro h; simp_all)
              refine AList.c 6 rfl rfl rfl (OpJ.assign rfl rfl) ?_
              refine AList.nil ?_
              refine AWp.ret ?_
              refine Fin.oneE rfl rfl ?_
              simp
theorem shadeEnds_law {x0 x1 x2 : List PV} (h0 : TyL [.sl [.leaf (.int .i64), .leaf (.int .i64)]] x0) (h1 : TyL [.leaf (.int .i64), .leaf (.int .i64), .leaf (.int .i64), .leaf (.int .i64), .leaf (.int .i64), .sl [.leaf (.int .i64), .leaf (.int .i64), .leaf (.int .i64), .leaf (.int .i64)], .leaf (.int .i64), .leaf (.int .i64), .leaf (.int .i64), .leaf (.int .i64), .leaf (.int .i64)] x1) (h2 : TyL [.sl [.leaf (.int .i64), .leaf (.int .i64), .leaf (.int .i64), .leaf (.int .i64), .leaf (.int .i64), .leaf (.int .i64)]] x2) : Pure Try.prog 7 [argP false x0, argP true x1, argP false x2] (.bool true) := by
  obtain ⟨c, rfl, hc⟩ := cur_of h0
  obtain ⟨l, rfl, hl⟩ := ld_of h1
  obtain ⟨s, rfl, hs⟩ := shds_of h2
  exact shadeEnds_main c l s hc hl hs
end Go.Proofs.Ythiapodcippnoaa
