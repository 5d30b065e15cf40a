/-
  The law ShadeNames.
-/
import Derived.Test.YthiapodcippnoaaSdFactsK
import Derived.Test.YthiapodcippnoaaSd12
import Derived.Test.YthiapodcippnoaaSdN
import Derived.Test.YthiapodcippnoaaAfN
set_option linter.unusedVariables false
set_option maxRecDepth 100000
set_option maxHeartbeats 4000000
set_option linter.unusedSimpArgs false
namespace Go.Proofs.Ythiapodcippnoaa
open Go.AF
theorem shadeNames_main  : Pure Try.prog 5 [] (.bool true) := by
  refine Pure.start (N := 151) Try.func5 rfl rfl (Nat.le_of_ble_eq_true rfl) ?_
  refine AWp.seq ?_
  refine AWp.region ?_
  refine AList.c 0 rfl rfl rfl (OpJ.assign rfl rfl) ?_
  refine AList.nil ?_
  refine AWp.seq ?_
  refine AWp.region ?_
  refine AList.c 24 rfl rfl rfl (OpJ.callP (sample_ok) rfl rfl rfl rfl rf24) ?_
  refine AList.c 23 rfl rfl rfl (OpJ.move rfl rfl) ?_
  refine AList.c 25 rfl rfl rfl (OpJ.extract rfl rfl rfl) ?_
  refine AList.c 26 rfl rfl rfl (OpJ.extract rfl rfl rfl) ?_
  refine AList.c 1 rfl rfl rfl (OpJ.allocOwn rfl zr28 rfl) ?_
  refine AList.c0 rfl rfl (OpJ.store (H' := [.cells ((smpL).cells.map .p) 28]) rfl rfl rfl rfl rfl ty28 rfl rfl) ?_
  refine AList.c 2 rfl rfl rfl (OpJ.assign rfl rfl) ?_
  refine AList.nil ?_
  refine AWp.seq ?_
  refine AWp.regionDrawG 8 3 [1, 2, 3] [([], false), ([], false), ([], false), ([1], true), ([2], true), ([3], true), ([1], true), ([2], true)] mixed (by kernel_rfl) (by decide) (by kernel_rfl) rfl rfl ?_
  refine AQG.cons 27 rfl rfl rfl (fun _ => (OpJ.load (v := .p (ldV smpL)) rfl rfl ty28 rfl)) rfl ?_
  refine AQG.cons 28 rfl rfl rfl (fun _ => (OpJ.load (v := .p (ldV smpL)) rfl rfl ty28 rfl)) rfl ?_
  refine AQG.cons 29 rfl rfl rfl (fun _ => (OpJ.load (v := .p (ldV smpL)) rfl rfl ty28 rfl)) rfl ?_
  refine AQG.lay (v0 := .ptr 4 0) 3 1 rfl rfl rfl rfl rfl rfl rfl rfl (fun _ => (OpJ.allocOwn rfl zr28 rfl)) rfl rfl rfl ?_
  refine AQG.lay (v0 := .ptr 4 0) 4 2 rfl rfl rfl rfl rfl rfl rfl rfl (fun _ => (OpJ.allocOwn rfl zr28 rfl)) rfl rfl rfl ?_
  refine AQG.lay (v0 := .ptr 4 0) 5 3 rfl rfl rfl rfl rfl rfl rfl rfl (fun _ => (OpJ.allocOwn rfl zr28 rfl)) rfl rfl rfl ?_
  refine AQG.put 1 rfl rfl rfl rfl (fun _ => (OpJ.store rfl rfl rfl rfl rfl ty28 rfl rfl)) rfl rfl ?_
  refine AQG.put 2 rfl rfl rfl rfl (fun _ => (OpJ.store rfl rfl rfl rfl rfl ty28 rfl rfl)) rfl rfl ?_
  refine AQG.nil ?_
  refine AList.c0 rfl rfl (OpJ.store rfl rfl rfl rfl rfl ty28 rfl rfl) ?_
  refine AList.nil ?_
  refine AWp.seq ?_
  refine AWp.norm [0, 1, 2, 3] [(1, _), (3, _), (4, _), (5, _)] [.cells ((smpL).cells.map .p) 28, .cells ((smpL).cells.map .p) 28, .cells ((smpL).cells.map .p) 28, .cells ((smpL).cells.map .p) 28] rfl (by repeat (first | exact Sub.nil | refine Sub.cons rfl ?_)) rfl ?_
  refine AWp.region ?_
  refine AList.c 30 rfl rfl rfl (OpJ.fieldAddr rfl rfl fd28_3 rfl) ?_
  refine AList.c 31 rfl rfl rfl (OpJ.load (v := .p (.is (smpL.st.flatMap Stk.cells) 2)) rfl rfl ty26 rfl) ?_
  refine AList.c 32 rfl rfl rfl (OpJ.sliceIs (l := 0) (h := 1) (r := (([⟨40, 45, 500, 500⟩] : List Stk).flatMap Stk.cells)) rfl rfl sl26 el26 rfl ⟨_, rfl⟩ (by omega) (by omega) rfl) ?_
  refine AList.c 33 rfl rfl rfl (OpJ.fieldAddr rfl rfl fd28_3 rfl) ?_
  refine AList.c0 rfl rfl (OpJ.store rfl rfl rfl rfl rfl ty26 rfl rfl) ?_
  refine AList.c 34 rfl rfl rfl (OpJ.fieldAddr rfl rfl fd28_3 rfl) ?_
  refine AList.c0 rfl rfl (OpJ.store rfl rfl rfl rfl rfl ty26 rfl rfl) ?_
  refine AList.nil ?_
  refine AWp.seq ?_
  refine AWp.to (To.wkB 2 rfl) ?_
  refine AWp.norm [0, 1, 2, 3] [(1, _), (3, _), (4, _), (5, _)] [.cells ((smpL).cells.map .p) 28, .cells ((oneL).cells.map .p) 28, .cells ((noneL).cells.map .p) 28, .cells ((smpL).cells.map .p) 28] rfl (by repeat (first | exact Sub.nil | refine Sub.cons rfl ?_)) rfl ?_
  refine AWp.regionDrawG 7 1 [4] [([], false), ([], false), ([], false), ([4], true), ([], false), ([], false), ([], false)] mixed (by kernel_rfl) (by decide) (by kernel_rfl) rfl rfl ?_
  refine AQG.cons 35 rfl rfl rfl (fun _ => (OpJ.callP (lspan_ok _ _) rfl rfl rfl rfl rf25)) rfl ?_
  refine AQG.cons 36 rfl rfl rfl (fun _ => (OpJ.callP (lspan_ok _ _) rfl rfl rfl rfl rf25)) rfl ?_
  refine AQG.cons 37 rfl rfl rfl (fun _ => (OpJ.buildR (v := .p (.agg (Stk.mk 10 20 500 500).cells)) rfl bd51 rfl rfl rfl)) rfl ?_
  refine AQG.lay (v0 := .row 5 _) 38 4 rfl rfl rfl rfl rfl rfl rfl rfl (fun _ => (OpJ.buildOwn rfl slz26 (by decide) rfl rfl)) rfl rfl rfl ?_
  refine AQG.cons 39 rfl rfl rfl (fun _ => (OpJ.fieldAddr rfl rfl fd28_3 rfl)) rfl ?_
  refine AQG.cons 40 rfl rfl rfl (fun _ => (OpJ.load (v := .p (.is (smpL.st.flatMap Stk.cells) 2)) rfl rfl ty26 rfl)) rfl ?_
  refine AQG.cons 41 rfl rfl rfl (fun _ => (OpJ.sliceIs (l := 1) (h := 2) (r := (([⟨70, 80, 900, 1000⟩] : List Stk).flatMap Stk.cells)) rfl rfl sl26 el26 ⟨_, rfl⟩ rfl (by omega) (by omega) rfl)) rfl ?_
  refine AQG.nil ?_
  refine AList.c 42 rfl rfl rfl (OpJ.appendRow (i := 4) (len := 1) rfl rfl rfl slz26 sl26 rfl ?_ rfl rfl by51 (by decide) ?_) ?_
  · rfl
  · decide
  refine AList.c 43 rfl rfl rfl (OpJ.fieldAddr rfl rfl fd28_3 rfl) ?_
  refine AList.c0 rfl rfl (OpJ.store rfl rfl rfl rfl rfl ty26 rfl rfl) ?_
  refine AList.nil ?_
  refine AWp.seq ?_
  refine AWp.to (To.frzC 5 3 (xs := badL.st.flatMap Stk.cells) (by decide) rfl rfl rfl) ?_
  refine AWp.norm [0, 1, 2, 3] [(3, _), (4, _), (5, _)] [.cells ((smpL).cells.map .p) 28, .cells ((oneL).cells.map .p) 28, .cells ((noneL).cells.map .p) 28, .cells ((badL).cells.map .p) 28] rfl (by repeat (first | exact Sub.nil | refine Sub.cons rfl ?_)) rfl ?_
  refine AWp.region ?_
  refine AList.c 44 rfl rfl rfl (OpJ.load (v := .p (ldV noneL)) rfl rfl ty28 rfl) ?_
  refine AList.c 6 rfl rfl rfl (OpJ.allocOwn rfl zr28 rfl) ?_
  refine AList.c0 rfl rfl (OpJ.store (H' := [.cells ((smpL).cells.map .p) 28, .cells ((oneL).cells.map .p) 28, .cells ((noneL).cells.map .p) 28, .cells ((badL).cells.map .p) 28, .cells ((noneL).cells.map .p) 28]) rfl rfl rfl rfl rfl ty28 rfl rfl) ?_
  refine AList.nil ?_
  refine AWp.seq ?_
  refine AWp.region ?_
  refine AList.c 45 rfl rfl rfl (OpJ.callP (lspan_ok _ _) rfl rfl rfl rfl rf25) ?_
  refine AList.c 46 rfl rfl rfl (OpJ.fieldAddr rfl rfl fd28_0 rfl) ?_
  refine AList.c0 rfl rfl (OpJ.store (H' := [.cells ((smpL).cells.map .p) 28, .cells ((oneL).cells.map .p) 28, .cells ((noneL).cells.map .p) 28, .cells ((badL).cells.map .p) 28, .cells ((wideL).cells.map .p) 28]) rfl rfl rfl rfl rfl ty25 rfl rfl) ?_
  refine AList.nil ?_
  refine AWp.seq ?_
  refine AWp.seq ?_
  refine AWp.regionDraw 15 mixed (by kernel_rfl) (by decide) ?_
  refine AQuiet.cons 47 rfl rfl rfl (OpJ.load (v := .p (ldV oneL)) rfl rfl ty28 rfl) ?_
  refine AQuiet.cons 48 rfl rfl rfl (OpJ.callP (lspan_ok _ _) rfl rfl rfl rfl rf25) ?_
  refine AQuiet.cons 49 rfl rfl rfl (OpJ.buildR (v := .p (.agg (Cas.mk oneL 80 90 0).cells)) rfl bd52 rfl rfl rfl) ?_
  refine AQuiet.cons 50 rfl rfl rfl (OpJ.load (v := .p (ldV noneL)) rfl rfl ty28 rfl) ?_
  refine AQuiet.cons 51 rfl rfl rfl (OpJ.callP (lspan_ok _ _) rfl rfl rfl rfl rf25) ?_
  refine AQuiet.cons 52 rfl rfl rfl (OpJ.buildR (v := .p (.agg (Cas.mk noneL 78 90 0).cells)) rfl bd52 rfl rfl rfl) ?_
  refine AQuiet.cons 53 rfl rfl rfl (OpJ.load (v := .p (ldV wideL)) rfl rfl ty28 rfl) ?_
  refine AQuiet.cons 54 rfl rfl rfl (OpJ.callP (lspan_ok _ _) rfl rfl rfl rfl rf25) ?_
  refine AQuiet.cons 55 rfl rfl rfl (OpJ.buildR (v := .p (.agg (Cas.mk wideL 73 94 0).cells)) rfl bd52 rfl rfl rfl) ?_
  refine AQuiet.cons 56 rfl rfl rfl (OpJ.load (v := .p (ldV badL)) rfl rfl ty28 rfl) ?_
  refine AQuiet.cons 57 rfl rfl rfl (OpJ.callP (lspan_ok _ _) rfl rfl rfl rfl rf25) ?_
  refine AQuiet.cons 58 rfl rfl rfl (OpJ.buildR (v := .p (.agg (Cas.mk badL 0 0 6).cells)) rfl bd52 rfl rfl rfl) ?_
  refine AQuiet.cons 59 rfl rfl rfl (OpJ.buildWh (xs := cas.flatMap Cas.cells) [(Cas.mk oneL 80 90 0).cells, (Cas.mk noneL 78 90 0).cells, (Cas.mk wideL 73 94 0).cells, (Cas.mk badL 0 0 6).cells] rfl slz53 (by decide) rfl rfl rfl rfl rfl) ?_
  refine AQuiet.cons 60 rfl rfl rfl (OpJ.lenSlice rfl rfl sl53 rfl) ?_
  refine AQuiet.cons 61 rfl rfl rfl (OpJ.move rfl rfl) ?_
  refine AQuiet.nil ?_
  refine AList.nil ?_
  refine AWp.block ?_
  refine AWp.loopHL [11, 12, 13, 14, 15, 16, 19, 20, 21, 22, 59, 60, 83, 84, 85, 86, 87, 88, 89, 90, 91, 92, 93, 94, 95, 96, 97, 98, 99, 100, 101, 102, 103, 104, 105, 106, 107, 108, 109, 110, 111, 112, 113, 114, 115, 116, 117, 118, 119, 120, 121, 122, 123, 124, 125, 126, 127, 128, 129, 130, 131, 132, 133, 134, 135, 136, 137, 138, 139, 140, 141, 142, 143, 144, 145, 146, 147, 148, 149, 150] (fun g => [(61, .p (.int .i64 ((g : Nat) : Int)))]) (fun g => []) (fun g => g ≤ 4) (fun g => 4 - g) 0 (Nat.zero_le _) (To.done [] rfl (by repeat (first | exact Sub.nil | refine Sub.cons rfl ?_)) rfl) (fun i hg => ?_)
  refine AWp.seq ?_
  refine AWp.region ?_
  refine AList.c 62 rfl rfl rfl (OpJ.lss rfl rfl rfl) ?_
  refine AList.nil ?_
  refine AWp.seq ?_
  refine AWp.cond _ rfl (fun hc0 => ?_) (fun hc0 => ?_)
  · skip
    have hi4 : i < 4 := by have h := of_decide_eq_true hc0; omega
    have hk0 : i < cas.length := hi4
    have hcs := cas_st i hi4
    refine AWp.skip ?_
    refine AWp.seq ?_
    refine AWp.block ?_
    refine AWp.seq ?_
    refine AWp.region ?_
    refine AList.c 63 rfl rfl rfl (OpJ.indexG (g := casAt) casAt_get rfl rfl rfl sl53 el53 rfl (fun _ => rfl) (by decide) hk0) ?_
    refine AList.c 64 rfl rfl rfl (OpJ.load (v := .p (.agg (casAt i).cells)) rfl rfl ty52 rfl) ?_
    refine AList.c 8 rfl rfl rfl (OpJ.allocOwn rfl zr52 rfl) ?_
    refine AList.c0 rfl rfl (OpJ.store (H' := [.cells ((casAt i).cells.map .p) 52]) rfl rfl rfl rfl rfl ty52 rfl rfl) ?_
    refine AList.nil ?_
    refine AWp.seq ?_
    refine AWp.regionDrawG 9 1 [1] [([], false), ([], false), ([], false), ([], false), ([], false), ([], false), ([], false), ([1], true), ([1], true)] mixed (by kernel_rfl) (by decide) (by kernel_rfl) rfl rfl ?_
    refine AQG.cons 66 rfl rfl rfl (fun _ => (OpJ.callP (curve_ok) rfl rfl rfl rfl rf26)) rfl ?_
    refine AQG.cons 67 rfl rfl rfl (fun _ => (OpJ.fieldAddr rfl rfl fd52_0 rfl)) rfl ?_
    refine AQG.cons 68 rfl rfl rfl (fun _ => (OpJ.load (v := .p (ldV (casAt i).l)) rfl rfl ty28 rfl)) rfl ?_
    refine AQG.cons 69 rfl rfl rfl (fun _ => (OpJ.callP (black_R curveL (casAt i).l (by decide) hcs) rfl rfl rfl rfl rf15)) rfl ?_
    refine AQG.cons 65 rfl rfl rfl (fun _ => (OpJ.move rfl rfl)) rfl ?_
    refine AQG.cons 70 rfl rfl rfl (fun _ => (OpJ.extract rfl rfl rfl)) rfl ?_
    refine AQG.cons 71 rfl rfl rfl (fun _ => (OpJ.extract rfl rfl rfl)) rfl ?_
    refine AQG.lay (v0 := .ptr 2 0) 9 1 rfl rfl rfl rfl rfl rfl rfl rfl (fun _ => (OpJ.allocOwn rfl zr25 rfl)) rfl rfl rfl ?_
    refine AQG.put 1 rfl rfl rfl rfl (fun _ => (OpJ.store rfl rfl rfl rfl rfl ty25 rfl rfl)) rfl rfl ?_
    refine AQG.nil ?_
    refine AList.c 10 rfl rfl rfl (OpJ.assign rfl rfl) ?_
    refine AList.nil ?_
    refine AWp.seq ?_
    rw [cas_black i hi4]
    refine AWp.region ?_
    refine AList.c 72 rfl rfl rfl (OpJ.load (v := .p (.agg [.int .i64 (casAt i).lo, .int .i64 (casAt i).hi])) rfl rfl ty25 rfl) ?_
    refine AList.c 73 rfl rfl rfl (OpJ.fieldAddr rfl rfl fd52_1 rfl) ?_
    refine AList.c 74 rfl rfl rfl (OpJ.load (v := .p (.agg [.int .i64 (casAt i).lo, .int .i64 (casAt i).hi])) rfl rfl ty25 rfl) ?_
    refine AList.c 75 rfl rfl rfl (OpJ.eqAgg (d := 8) rfl (.inr rfl) rfl rfl (by decide) eq25 ty25 rfl eg25 rfl) ?_
    refine AList.c 76 rfl rfl rfl (OpJ.move rfl rfl) ?_
    refine AList.g 77 76 rfl rfl rfl rfl rfl rfl rfl [(10, _)] (fun h => And.intro (.inl rfl) (trivial)) (fun h => (OpJ.move rfl rfl)) ?_
    refine AList.g 78 76 rfl rfl rfl rfl rfl rfl rfl [(8, _)] (fun h => And.intro (.inl rfl) (trivial)) (fun h => (OpJ.fieldAddr rfl rfl fd52_2 rfl)) ?_
    refine AList.g 79 76 rfl rfl rfl rfl rfl rfl rfl [(78, _)] (fun h => And.intro (.inr ⟨_, rfl, h⟩) (trivial)) (fun h => (OpJ.load (v := .p (.int .i64 (casAt i).e)) rfl rfl ty31 rfl)) ?_
    refine AList.g 80 76 rfl rfl rfl rfl rfl rfl rfl [(77, _), (79, _)] (fun h => And.intro (.inr ⟨_, rfl, h⟩) (And.intro (.inr ⟨_, rfl, h⟩) (trivial))) (fun h => (OpJ.neq rfl rfl rfl)) ?_
    refine AList.c 81 rfl rfl rfl (OpJ.or_ rfl rfl rfl ?_) ?_
    · first | (intro h; rw [h]; rfl) | (intro h; simp_all)
    refine AList.nil ?_
    refine AWp.cond _ rfl (fun hc1 => ?_) (fun hc1 => ?_)
    · skip
      exfalso
      simp at hc1
    · skip
      refine AWp.skip ?_
      refine AWp.region ?_
      refine AList.c 82 rfl rfl rfl (OpJ.add rfl rfl rfl (i64ok ?_)) ?_
      · omega
      refine AList.c 61 rfl rfl rfl (OpJ.move rfl rfl) ?_
      refine AList.nil ?_
      refine ⟨i + 1, ?_, ?_, ?_⟩
      · omega
      · omega
      exact To.done [] rfl (by repeat (first | exact Sub.nil | refine Sub.cons rfl ?_)) rfl
  · skip
    refine AWp.exit ?_
    refine AWp.seq ?_
    refine AWp.region ?_
    refine AList.c 84 rfl rfl rfl (OpJ.callP (four_ok) rfl rfl rfl rfl rf27) ?_
    refine AList.c 83 rfl rfl rfl (OpJ.move rfl rfl) ?_
    refine AList.c 85 rfl rfl rfl (OpJ.extract rfl rfl rfl) ?_
    refine AList.c 86 rfl rfl rfl (OpJ.extract rfl rfl rfl) ?_
    refine AList.c 11 rfl rfl rfl (OpJ.assign rfl rfl) ?_
    refine AList.c 12 rfl rfl rfl (OpJ.assign rfl rfl) ?_
    refine AList.nil ?_
    refine AWp.seq ?_
    refine AWp.seq ?_
    refine AWp.region ?_
    refine AList.c 87 rfl rfl rfl (OpJ.callP (lspan_ok _ _) rfl rfl rfl rfl rf25) ?_
    refine AList.c 88 rfl rfl rfl (OpJ.callP (lspan_ok _ _) rfl rfl rfl rfl rf25) ?_
    refine AList.c 89 rfl rfl rfl (OpJ.callP (lspan_ok _ _) rfl rfl rfl rfl rf25) ?_
    refine AList.c 90 rfl rfl rfl (OpJ.callP (lspan_ok _ _) rfl rfl rfl rfl rf25) ?_
    refine AList.c 91 rfl rfl rfl (OpJ.buildWh (xs := want.flatMap spC) [spC (80, 88), spC (30, 40), spC (60, 70), spC (85, 95)] rfl slz57 (by decide) rfl rfl rfl rfl rfl) ?_
    refine AList.c 92 rfl rfl rfl (OpJ.lenSlice rfl rfl sl57 rfl) ?_
    refine AList.c 93 rfl rfl rfl (OpJ.move rfl rfl) ?_
    refine AList.nil ?_
    refine AWp.block ?_
    refine AWp.loopHL [11, 12, 19, 20, 21, 22, 91, 92, 115, 116, 117, 118, 119, 120, 121, 122, 123, 124, 125, 126, 127, 128, 129, 130, 131, 132, 133, 134, 135, 136, 137, 138, 139, 140, 141, 142, 143, 144, 145, 146, 147, 148, 149, 150] (fun g => [(93, .p (.int .i64 ((g : Nat) : Int)))]) (fun g => []) (fun g => g ≤ 4) (fun g => 4 - g) 0 (Nat.zero_le _) (To.done [] rfl (by repeat (first | exact Sub.nil | refine Sub.cons rfl ?_)) rfl) (fun i hg => ?_)
    refine AWp.seq ?_
    refine AWp.region ?_
    refine AList.c 94 rfl rfl rfl (OpJ.lss rfl rfl rfl) ?_
    refine AList.nil ?_
    refine AWp.seq ?_
    refine AWp.cond _ rfl (fun hc2 => ?_) (fun hc2 => ?_)
    · skip
      have hi4 : i < 4 := by have h := of_decide_eq_true hc2; omega
      have hk0 : i < want.length := hi4
      have hkf : i < fourL.length := hi4
      have hfs : (ld fourL i).st.length ≤ bigN := (show ∀ x ∈ fourL, x.st.length ≤ bigN by decide) _ (ld_mem hkf)
      refine AWp.skip ?_
      refine AWp.seq ?_
      refine AWp.block ?_
      refine AWp.seq ?_
      refine AWp.region ?_
      refine AList.c 95 rfl rfl rfl (OpJ.move rfl rfl) ?_
      refine AList.c 96 rfl rfl rfl (OpJ.indexG (g := wAt) wAt_get rfl rfl rfl sl57 el57 rfl (fun _ => rfl) (by decide) hk0) ?_
      refine AList.c 97 rfl rfl rfl (OpJ.load (v := .p (.agg (spC (wAt i)))) rfl rfl ty25 rfl) ?_
      refine AList.c 14 rfl rfl rfl (OpJ.allocOwn rfl zr25 rfl) ?_
      refine AList.c 13 rfl rfl rfl (OpJ.assign rfl rfl) ?_
      refine AList.c0 rfl rfl (OpJ.store (H' := [.cells ((spC (wAt i)).map .p) 25]) rfl rfl rfl rfl rfl ty25 rfl rfl) ?_
      refine AList.nil ?_
      refine AWp.seq ?_
      refine AWp.region ?_
      refine AList.c 99 rfl rfl rfl (OpJ.move rfl rfl) ?_
      refine AList.c 100 rfl rfl rfl (OpJ.move rfl rfl) ?_
      refine AList.c 101 rfl rfl rfl (OpJ.move rfl rfl) ?_
      refine AList.c 102 rfl rfl rfl (OpJ.indexG (g := ld fourL) (fun _ h => ld_get h) rfl rfl rfl sl39 el39 rfl (fun _ => rfl) (by decide) hkf) ?_
      refine AList.c 103 rfl rfl rfl (OpJ.load (v := .p (ldV (ld fourL i))) rfl rfl ty28 rfl) ?_
      refine AList.c 104 rfl rfl rfl (OpJ.callP (black_R fourC (ld fourL i) (by decide) hfs) rfl rfl rfl rfl rf15) ?_
      refine AList.c 98 rfl rfl rfl (OpJ.move rfl rfl) ?_
      refine AList.c 105 rfl rfl rfl (OpJ.extract rfl rfl rfl) ?_
      refine AList.c 106 rfl rfl rfl (OpJ.extract rfl rfl rfl) ?_
      refine AList.c 15 rfl rfl rfl (OpJ.allocOwn rfl zr25 rfl) ?_
      refine AList.c0 rfl rfl (OpJ.store rfl rfl rfl rfl rfl ty25 rfl rfl) ?_
      refine AList.c 16 rfl rfl rfl (OpJ.assign rfl rfl) ?_
      refine AList.nil ?_
      refine AWp.seq ?_
      rw [want_black i hi4]
      refine AWp.region ?_
      refine AList.c 107 rfl rfl rfl (OpJ.load rfl rfl ty25 rfl) ?_
      refine AList.c 108 rfl rfl rfl (OpJ.load rfl rfl ty25 rfl) ?_
      refine AList.c 109 rfl rfl rfl (OpJ.eqAgg (d := 8) rfl (.inr rfl) rfl rfl (by decide) eq25 ty25 rfl eg25 rfl) ?_
      refine AList.c 110 rfl rfl rfl (OpJ.move rfl rfl) ?_
      refine AList.g 111 110 rfl rfl rfl rfl rfl rfl rfl [(16, _)] (fun h => And.intro (.inl rfl) (trivial)) (fun h => (OpJ.move rfl rfl)) ?_
      refine AList.g 112 110 rfl rfl rfl rfl rfl rfl rfl [(111, _)] (fun h => And.intro (.inr ⟨_, rfl, h⟩) (trivial)) (fun h => (OpJ.neq rfl rfl rfl)) ?_
      refine AList.c 113 rfl rfl rfl (OpJ.or_ rfl rfl rfl ?_) ?_
      · first | (intro h; rw [h]; rfl) | (intro h; simp_all)
      refine AList.nil ?_
      refine AWp.cond _ rfl (fun hc3 => ?_) (fun hc3 => ?_)
      · skip
        exfalso
        simp [spV, spC] at hc3
      · skip
        refine AWp.skip ?_
        refine AWp.region ?_
        refine AList.c 114 rfl rfl rfl (OpJ.add rfl rfl rfl (i64ok ?_)) ?_
        · omega
        refine AList.c 93 rfl rfl rfl (OpJ.move rfl rfl) ?_
        refine AList.nil ?_
        refine ⟨i + 1, ?_, ?_, ?_⟩
        · omega
        · omega
        exact To.done [] rfl (by repeat (first | exact Sub.nil | refine Sub.cons rfl ?_)) rfl
    · skip
      refine AWp.exit ?_
      refine AWp.seq ?_
      refine AWp.region ?_
      refine AList.c 116 rfl rfl rfl (OpJ.move rfl rfl) ?_
      refine AList.c 117 rfl rfl rfl (OpJ.move rfl rfl) ?_
      refine AList.c 118 rfl rfl rfl (OpJ.buildImm rfl slz34 (by decide) rfl rfl rfl) ?_
      refine AList.c 119 rfl rfl rfl (OpJ.callP (ordered_R fourC fourL [1, 0, 0, 1] 5 (by decide) (by decide) (by decide) (by decide)) rfl rfl rfl rfl rf20) ?_
      refine AList.c 115 rfl rfl rfl (OpJ.move rfl rfl) ?_
      refine AList.c 120 rfl rfl rfl (OpJ.extract rfl rfl rfl) ?_
      refine AList.c 121 rfl rfl rfl (OpJ.extract rfl rfl rfl) ?_
      refine AList.c 122 rfl rfl rfl (OpJ.extract rfl rfl rfl) ?_
      refine AList.c 17 rfl rfl rfl (OpJ.assign rfl rfl) ?_
      refine AList.c 18 rfl rfl rfl (OpJ.assign rfl rfl) ?_
      refine AList.c 19 rfl rfl rfl (OpJ.assign rfl rfl) ?_
      refine AList.nil ?_
      refine AWp.seq ?_
      rw [ex_ord2]
      refine AWp.region ?_
      refine AList.c 124 rfl rfl rfl (OpJ.move rfl rfl) ?_
      refine AList.c 125 rfl rfl rfl (OpJ.move rfl rfl) ?_
      refine AList.c 126 rfl rfl rfl (OpJ.buildR (v := .p (.agg s5.cells)) rfl bd41 rfl rfl rfl) ?_
      refine AList.c 127 rfl rfl rfl (OpJ.callP (cut_R fourC fourL s5 (by decide) (by decide) (by decide)) rfl rfl rfl rfl rf22) ?_
      refine AList.c 123 rfl rfl rfl (OpJ.move rfl rfl) ?_
      refine AList.c 128 rfl rfl rfl (OpJ.extract rfl rfl rfl) ?_
      refine AList.c 129 rfl rfl rfl (OpJ.extract rfl rfl rfl) ?_
      refine AList.c 130 rfl rfl rfl (OpJ.extract rfl rfl rfl) ?_
      refine AList.c 20 rfl rfl rfl (OpJ.assign rfl rfl) ?_
      refine AList.c 21 rfl rfl rfl (OpJ.assign rfl rfl) ?_
      refine AList.c 22 rfl rfl rfl (OpJ.assign rfl rfl) ?_
      refine AList.nil ?_
      refine AWp.seq ?_
      rw [ex_cut5]
      refine AWp.region ?_
      refine AList.c 131 rfl rfl rfl (OpJ.move rfl rfl) ?_
      refine AList.g 132 131 rfl rfl rfl rfl rfl rfl rfl [] (fun h => trivial) (fun h => (OpJ.callP (alive_ok) rfl rfl rfl rfl rf14)) ?_
      refine AList.c 133 rfl rfl rfl (OpJ.and_ rfl rfl rfl ?_) ?_
      · first | (intro h; rw [h]; rfl) | (intro h; simp_all)
      refine AList.c 134 rfl rfl rfl (OpJ.move rfl rfl) ?_
      refine AList.g 135 134 rfl rfl rfl rfl rfl rfl rfl [(19, _)] (fun h => And.intro (.inl rfl) (trivial)) (fun h => (OpJ.move rfl rfl)) ?_
      refine AList.g 136 134 rfl rfl rfl rfl rfl rfl rfl [(135, _)] (fun h => And.intro (.inr ⟨_, rfl, h⟩) (trivial)) (fun h => (OpJ.eql rfl rfl rfl)) ?_
      refine AList.c 137 rfl rfl rfl (OpJ.and_ rfl rfl rfl ?_) ?_
      · first | (intro h; rw [h]; rfl) | (intro h; simp_all)
      refine AList.c 138 rfl rfl rfl (OpJ.move rfl rfl) ?_
      refine AList.g 139 138 rfl rfl rfl rfl rfl rfl rfl [(20, _)] (fun h => And.intro (.inl rfl) (trivial)) (fun h => (OpJ.move rfl rfl)) ?_
      refine AList.g 140 138 rfl rfl rfl rfl rfl rfl rfl [] (fun h => trivial) (fun h => (OpJ.buildImm rfl slz34 (by decide) rfl rfl rfl)) ?_
      refine AList.g 141 138 rfl rfl rfl rfl rfl rfl rfl [(139, _), (140, _)] (fun h => And.intro (.inr ⟨_, rfl, h⟩) (And.intro (.inr ⟨_, rfl, h⟩) (trivial))) (fun h => (OpJ.callP (ints_ok [20, 40, 60, 80, 100] [20, 40, 60, 80, 100] (by decide) (by decide)) rfl rfl rfl rfl rf19)) ?_
      refine AList.c 142 rfl rfl rfl (OpJ.and_ rfl rfl rfl ?_) ?_
      · first | (intro h; rw [h]; rfl) | (intro h; simp_all)
      refine AList.c 143 rfl rfl rfl (OpJ.move rfl rfl) ?_
      refine AList.g 144 143 rfl rfl rfl rfl rfl rfl rfl [(21, _)] (fun h => And.intro (.inl rfl) (trivial)) (fun h => (OpJ.move rfl rfl)) ?_
      refine AList.g 145 143 rfl rfl rfl rfl rfl rfl rfl [(144, _)] (fun h => And.intro (.inr ⟨_, rfl, h⟩) (trivial)) (fun h => (OpJ.eql rfl rfl rfl)) ?_
      refine AList.c 146 rfl rfl rfl (OpJ.and_ rfl rfl rfl ?_) ?_
      · first | (intro h; rw [h]; rfl) | (intro h; simp_all)
      refine AList.c 147 rfl rfl rfl (OpJ.move rfl rfl) ?_
      refine AList.g 148 147 rfl rfl rfl rfl rfl rfl rfl [(22, _)] (fun h => And.intro (.inl rfl) (trivial)) (fun h => (OpJ.move rfl rfl)) ?_
      refine AList.g 149 147 rfl rfl rfl rfl rfl rfl rfl [(148, _)] (fun h => And.intro (.inr ⟨_, rfl, h⟩) (trivial)) (fun h => (OpJ.eql rfl rfl rfl)) ?_
      refine AList.c 150 rfl rfl rfl (OpJ.and_ rfl rfl rfl ?_) ?_
      · first | (intro h; rw [h]; rfl) | (intro h; simp_all)
      refine AList.c 0 rfl rfl rfl (OpJ.assign rfl rfl) ?_
      refine AList.nil ?_
      refine AWp.ret ?_
      exact Fin.oneE rfl rfl rfl
theorem shadeNames_law : Pure Try.prog 5 [] (.bool true) := shadeNames_main
end Go.Proofs.Ythiapodcippnoaa
