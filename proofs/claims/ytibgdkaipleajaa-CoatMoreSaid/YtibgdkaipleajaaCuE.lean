/-
  The dips of an order, as the document finds them.
  The times of an order, as the document says them.
  Who can be wet, as the document says it.
  Who can be wet, as the document counts it.
  Who can be wet, as the document says it, in all cases.
-/
import Derived.Test.YtibgdkaipleajaaCuF
import Derived.Test.YtibgdkaipleajaaCuD
import Derived.Test.YtibgdkaipleajaaCuP
section
set_option linter.unusedVariables false
set_option maxRecDepth 100000
set_option maxHeartbeats 4000000
set_option linter.unusedSimpArgs false
namespace Go.Proofs.Ytibgdkaipleajaa
open Go.AF
theorem mk_nil (p : Pnt) (o : List Int) (i : Nat) (h : i = 0) : (mkD p o i).flatMap Dp.cells = [] := by rw [h]; rfl
theorem many_A {p : Pnt} {o : List Int} {i : Nat} (hi : i ≤ 1000) (b : Int) : Pure Try.prog 53 [accP ((mkD p o i).flatMap Dp.cells) i, .int .i64 b] (.int .i64 ((manyD (mkD p o i) b i : Nat) : Int)) := by
  have h := many_ok (mkD p o i) b (by rw [mkD_len]; unfold bigN; omega)
  unfold dpsV at h
  rw [mkD_len] at h
  exact Pure.acc [] (mk_nil p o i) h
theorem early_A {p : Pnt} (hp : Ok p) {o : List Int} {i : Nat} (hi : i ≤ 1000) (hE : NoErr p o i) (x : Dp) (h0 : 0 ≤ x.h) (h1 : x.h ≤ 1073741824) : Pure Try.prog 54 [pntV p, accP ((mkD p o i).flatMap Dp.cells) i, .agg x.cells] (.tuple [.bool (erO p (mkD p o i) x), .bool (erS p (mkD p o i) x), .bool (erH p (mkD p o i) x)]) := by
  have h := early_ok p hp (mkD p o i) (good_mk hp hi hE) (by rw [mkD_len]; exact hi) x h0 h1
  unfold dpsV at h
  rw [mkD_len] at h
  exact Pure.acc [pntV p] (mk_nil p o i) h
theorem late_A {p : Pnt} (hp : Ok p) {o : List Int} {i : Nat} (hi : i ≤ 1000) (hE : NoErr p o i) (k : Nat) (hk : k < p.bs.length) (t : Int) : Pure Try.prog 55 [pntV p, accP ((mkD p o i).flatMap Dp.cells) i, .agg (Dp.cells ⟨(k : Int), t⟩)] (.bool (erL p (mkD p o i) ⟨(k : Int), t⟩)) := by
  have h := late_ok p hp (mkD p o i) (good_mk hp hi hE) (by rw [mkD_len]; exact hi) k hk t
  unfold dpsV at h
  rw [mkD_len] at h
  exact Pure.acc [pntV p] (mk_nil p o i) h
theorem dips_ok (p : Pnt) (o : List Int) (hb : p.bs.length ≤ 8) (hbd : ∀ b ∈ p.bs, b.dry.length ≤ 14) (hT : pntB p = true) (ho : o.length ≤ 1000) : Pure Try.prog 37 [pntV p, intsV o] (dipR p o) := by
  have hp := pnt_ok hT
  have hn4 := hp.n
  refine Pure.start (N := 108) Try.func37 rfl rfl (Nat.le_of_ble_eq_true rfl) ?_
  refine AWp.seq ?_
  refine AWp.region ?_
  refine AList.c 2 rfl rfl rfl (OpJ.boxImm rfl rfl rfl) ?_
  refine AList.c 4 rfl rfl rfl (OpJ.assign rfl rfl) ?_
  refine AList.c 5 rfl rfl rfl (OpJ.assign rfl rfl) ?_
  refine AList.c 6 rfl rfl rfl (OpJ.assign rfl rfl) ?_
  refine AList.nil ?_
  refine AWp.seq ?_
  refine AWp.region ?_
  refine AList.c 7 rfl rfl rfl (OpJ.assign rfl rfl) ?_
  refine AList.nil ?_
  refine AWp.seq ?_
  refine AWp.seq ?_
  refine AWp.region ?_
  refine AList.c 8 rfl rfl rfl (OpJ.assign rfl rfl) ?_
  refine AList.nil ?_
  refine AWp.block ?_
  refine AWp.to To.pad ?_
  refine AWp.loopHL [1, 2, 98, 99, 100, 101, 102, 103, 104, 105, 106, 107] (fun g => [(8, .p (.int .i64 ((g : Nat) : Int))), (7, accV 0 g)]) (fun g => [accB (((mkD p o g).flatMap Dp.cells).map .p) 49 g]) (fun g => g ≤ o.length ∧ NoErr p o g) (fun g => o.length - g) 0 ⟨Nat.zero_le _, fun j hj => absurd hj (by omega)⟩ (To.sub (Sub.chk (Sub.cons rfl (Sub.cons rfl (Sub.nil))))) (fun i hg => ?_)
  obtain ⟨hg1, hg2⟩ := hg
  refine AWp.seq ?_
  refine AWp.seq ?_
  refine AWp.region ?_
  refine AList.c 13 rfl rfl rfl (OpJ.move rfl rfl) ?_
  refine AList.c 14 rfl rfl rfl (OpJ.move rfl rfl) ?_
  refine AList.c 15 rfl rfl rfl (OpJ.lenSlice rfl rfl sl26 rfl) ?_
  refine AList.c 16 rfl rfl rfl (OpJ.lss rfl rfl rfl) ?_
  refine AList.nil ?_
  refine AWp.cond _ rfl (fun hc0 => ?_) (fun hc0 => ?_)
  · skip
    have hk0 : i < o.length := by have h := of_decide_eq_true hc0; omega
    have hi9 : i ≤ 1000 := by omega
    refine AWp.skip ?_
    refine AWp.seq ?_
    refine AWp.block ?_
    refine AWp.seq ?_
    refine AWp.seq ?_
    refine AWp.regionDraw 10 mixed (by kernel_rfl) (by decide) ?_
    refine AQuiet.cons 19 rfl rfl rfl (OpJ.move rfl rfl) ?_
    refine AQuiet.cons 20 rfl rfl rfl (OpJ.move rfl rfl) ?_
    refine AQuiet.cons 21 rfl rfl rfl (OpJ.indexG (g := nt o) nt_get rfl rfl rfl sl26 el26 rfl (fun _ => rfl) (by decide) hk0) ?_
    refine AQuiet.cons 22 rfl rfl rfl (OpJ.load (v := .p (.int .i64 (nt o i))) rfl rfl ty3 rfl) ?_
    refine AQuiet.cons 23 rfl rfl rfl (OpJ.fieldAddr rfl rfl fd24_2 rfl) ?_
    refine AQuiet.cons 24 rfl rfl rfl (OpJ.load (v := .p (cotsV p.bs)) rfl rfl ty22 rfl) ?_
    refine AQuiet.cons 25 rfl rfl rfl (OpJ.lenSlice rfl rfl sl22 rfl) ?_
    refine AQuiet.cons 26 rfl rfl rfl (OpJ.sub_ rfl rfl rfl (i64ok ?_)) ?_
    · omega
    refine AQuiet.cons 27 rfl rfl rfl (OpJ.callP (in_ok _ _ _) rfl rfl rfl rfl rf38) ?_
    refine AQuiet.cons 28 rfl rfl rfl (OpJ.not_ rfl rfl) ?_
    refine AQuiet.nil ?_
    refine AList.nil ?_
    refine AWp.cond _ rfl (fun hc1 => ?_) (fun hc1 => ?_)
    · skip
      have e1 := err_2 (p := p) (o := o) (i := i) hc1
      have te := times_err hT hk0 hg2 (by rw [e1]; decide)
      unfold dipR
      rw [te, e1]
      refine AWp.seq ?_
      refine AWp.region ?_
      refine AList.c 29 rfl rfl rfl (OpJ.move rfl rfl) ?_
      refine AList.c 4 rfl rfl rfl (OpJ.assign rfl rfl) ?_
      refine AList.c 5 rfl rfl rfl (OpJ.assign rfl rfl) ?_
      refine AList.c 6 rfl rfl rfl (OpJ.assign rfl rfl) ?_
      refine AList.nil ?_
      refine AWp.ret ?_
      exact Fin.manyE (xs := [.nilSlice, .int .i64 (i : Int), .int .i64 2]) rfl (⟨_, _, rfl, rfl, ⟨_, _, rfl, rfl, ⟨_, _, rfl, rfl, rfl⟩⟩⟩) rfl rfl
    · skip
      have hin : inB (nt o i) 0 ((p.bs.length : Int) - 1) = true := by simpa using hc1
      obtain ⟨k, hk, hkl⟩ : ∃ k : Nat, nt o i = (k : Int) ∧ k < p.bs.length := by unfold inB at hin; simp at hin; exact ⟨(nt o i).toNat, by omega, by omega⟩
      have htB := time_B hp (stN_B hp o i) k
      have hsB := stH_B hp hg2 k
      have hes := (ear_st hp hi9 hg2 hkl (Int.le_refl 0)).2.2.2.2
      refine AWp.skip ?_
      refine AWp.seq ?_
      refine AWp.seq ?_
      refine AWp.regionDraw 17 mixed (by kernel_rfl) (by decide) ?_
      refine AQuiet.cons 30 rfl rfl rfl (OpJ.move rfl rfl) ?_
      refine AQuiet.cons 31 rfl rfl rfl (OpJ.move rfl rfl) ?_
      refine AQuiet.cons 32 rfl rfl rfl (OpJ.move rfl rfl) ?_
      refine AQuiet.cons 33 rfl rfl rfl (OpJ.indexG (g := nt o) nt_get rfl rfl rfl sl26 el26 rfl (fun _ => rfl) (by decide) hk0) ?_
      refine AQuiet.cons 34 rfl rfl rfl (OpJ.load (v := .p (.int .i64 ((k : Nat) : Int))) rfl rfl ty3 (congrArg (fun z => some (V.p (PV.int .i64 z))) hk)) ?_
      refine AQuiet.cons 35 rfl rfl rfl (OpJ.callB 3 (many_A hi9 (k : Int)) rfl rfl rfl rfl rfl (mapO.c (brwAcc rfl) (mapO.c brwP mapO.n)) rf53) ?_
      refine AQuiet.cons 36 rfl rfl rfl (OpJ.fieldAddr rfl rfl fd24_2 rfl) ?_
      refine AQuiet.cons 37 rfl rfl rfl (OpJ.load (v := .p (cotsV p.bs)) rfl rfl ty22 rfl) ?_
      refine AQuiet.cons 38 rfl rfl rfl (OpJ.move rfl rfl) ?_
      refine AQuiet.cons 39 rfl rfl rfl (OpJ.move rfl rfl) ?_
      refine AQuiet.cons 40 rfl rfl rfl (OpJ.indexG (g := nt o) nt_get rfl rfl rfl sl26 el26 rfl (fun _ => rfl) (by decide) hk0) ?_
      refine AQuiet.cons 41 rfl rfl rfl (OpJ.load (v := .p (.int .i64 ((k : Nat) : Int))) rfl rfl ty3 (congrArg (fun z => some (V.p (PV.int .i64 z))) hk)) ?_
      refine AQuiet.cons 42 rfl rfl rfl (OpJ.indexG (g := cot p.bs) cot_get rfl rfl rfl sl22 el22 rfl (fun _ => rfl) (by decide) hkl) ?_
      refine AQuiet.cons 43 rfl rfl rfl (OpJ.fieldAddr rfl rfl fd52_0 rfl) ?_
      refine AQuiet.cons 44 rfl rfl rfl (OpJ.load (v := .p (spnsV (cot p.bs k).dry)) rfl rfl ty50 rfl) ?_
      refine AQuiet.cons 45 rfl rfl rfl (OpJ.lenSlice rfl rfl sl50 rfl) ?_
      refine AQuiet.cons 46 rfl rfl rfl (OpJ.geq rfl rfl rfl) ?_
      refine AQuiet.nil ?_
      refine AList.nil ?_
      refine AWp.cond _ rfl (fun hc2 => ?_) (fun hc2 => ?_)
      · skip
        have e1 := err_9 hk hkl (by have h := of_decide_eq_true hc2; omega)
        have te := times_err hT hk0 hg2 (by rw [e1]; decide)
        unfold dipR
        rw [te, e1]
        refine AWp.seq ?_
        refine AWp.region ?_
        refine AList.c 47 rfl rfl rfl (OpJ.move rfl rfl) ?_
        refine AList.c 4 rfl rfl rfl (OpJ.assign rfl rfl) ?_
        refine AList.c 5 rfl rfl rfl (OpJ.assign rfl rfl) ?_
        refine AList.c 6 rfl rfl rfl (OpJ.assign rfl rfl) ?_
        refine AList.nil ?_
        refine AWp.ret ?_
        exact Fin.manyE (xs := [.nilSlice, .int .i64 (i : Int), .int .i64 9]) rfl (⟨_, _, rfl, rfl, ⟨_, _, rfl, rfl, ⟨_, _, rfl, rfl, rfl⟩⟩⟩) rfl rfl
      · skip
        have hmy := may_ok0 hk hkl (by have h := of_decide_eq_false hc2; omega)
        refine AWp.skip ?_
        refine AWp.seq ?_
        refine AWp.region ?_
        refine AList.c 48 rfl rfl rfl (OpJ.move rfl rfl) ?_
        refine AList.c 49 rfl rfl rfl (OpJ.move rfl rfl) ?_
        refine AList.c 50 rfl rfl rfl (OpJ.indexG (g := nt o) nt_get rfl rfl rfl sl26 el26 rfl (fun _ => rfl) (by decide) hk0) ?_
        refine AList.c 51 rfl rfl rfl (OpJ.load (v := .p (.int .i64 ((k : Nat) : Int))) rfl rfl ty3 (congrArg (fun z => some (V.p (PV.int .i64 z))) hk)) ?_
        refine AList.c 52 rfl rfl rfl (OpJ.buildR (v := .p (.agg [.int .i64 ((k : Nat) : Int), .int .i64 0])) rfl bd49 rfl rfl rfl) ?_
        refine AList.c 9 rfl rfl rfl (OpJ.allocOwn rfl zr49 rfl) ?_
        refine AList.c0 rfl rfl (OpJ.store (H' := [accB (((mkD p o i).flatMap Dp.cells).map .p) 49 i, .cells [.p (.int .i64 ((k : Nat) : Int)), .p (.int .i64 0)] 49]) rfl rfl rfl rfl rfl ty49 rfl rfl) ?_
        refine AList.nil ?_
        refine AWp.join (fun (g : Unit) => [(1, .p (intsV o)), (2, .p (.ip (pntC p) 0)), (7, accV 0 i), (8, .p (.int .i64 ((i : Nat) : Int))), (9, .ptr 1 0)]) (fun (g : Unit) => [accB (((mkD p o i).flatMap Dp.cells).map .p) 49 i, .cells [.p (.int .i64 ((k : Nat) : Int)), .p (.int .i64 (stH p o i))] 49]) (fun (g : Unit) => True) ?_ (fun g hg => ?_)
        · skip
          refine AWp.seq ?_
          refine AWp.region ?_
          refine AList.c 53 rfl rfl rfl (OpJ.move rfl rfl) ?_
          refine AList.c 54 rfl rfl rfl (OpJ.gtr rfl rfl rfl) ?_
          refine AList.nil ?_
          refine AWp.cond _ rfl (fun hc3 => ?_) (fun hc3 => ?_)
          · skip
            obtain ⟨j, rfl⟩ : ∃ j, i = j + 1 := ⟨i - 1, by have h := of_decide_eq_true hc3; omega⟩
            refine AWp.region ?_
            refine AList.c 55 rfl rfl rfl (OpJ.move rfl rfl) ?_
            refine AList.c 56 rfl rfl rfl (OpJ.move rfl rfl) ?_
            refine AList.c 57 rfl rfl rfl (OpJ.sub_ (m := ((j : Nat) : Int)) rfl rfl rfl ((i64ok ?_).trans ?_)) ?_
            · omega
            · omega
            refine AList.c 58 rfl rfl rfl (OpJ.indexAcc rfl rfl rfl sl25 el25 (Nat.lt_succ_self j)) ?_
            refine AList.c 59 rfl rfl rfl (OpJ.fieldAddr rfl rfl fd49_1 rfl) ?_
            refine AList.c 60 rfl rfl rfl (OpJ.loadFlat (f := Dp.cells) (c := 2) (k := j) (j := 1) (xs := (mkD p o (j + 1))) rfl rfl ty3 rfl rfl (by omega) (fun _ => rfl) (by rw [mkD_len]; omega) (by decide) (by rw [dpt_get j (by rw [mkD_len]; omega), mkD_at p o (by omega)])) ?_
            refine AList.c 61 rfl rfl rfl (OpJ.fieldAddr rfl rfl fd49_1 rfl) ?_
            refine AList.c0 rfl rfl (OpJ.store (H' := [accB (((mkD p o (j + 1)).flatMap Dp.cells).map .p) 49 (j + 1), .cells [.p (.int .i64 ((k : Nat) : Int)), .p (.int .i64 (hrI p o j))] 49]) rfl rfl rfl rfl rfl ty3 rfl rfl) ?_
            refine AList.nil ?_
            exact ⟨(), trivial, To.sub (Sub.cons rfl (Sub.cons rfl (Sub.cons rfl (Sub.cons rfl (Sub.cons rfl Sub.nil)))))⟩
          · skip
            obtain rfl : i = 0 := by have h := of_decide_eq_false hc3; omega
            refine AWp.skip ?_
            exact ⟨(), trivial, To.sub (Sub.cons rfl (Sub.cons rfl (Sub.cons rfl (Sub.cons rfl (Sub.cons rfl Sub.nil)))))⟩
        · skip
          refine AWp.seq ?_
          refine AWp.region ?_
          refine AList.c 63 rfl rfl rfl (OpJ.load (v := .p (pntV p)) rfl rfl ty24 rfl) ?_
          refine AList.c 64 rfl rfl rfl (OpJ.move rfl rfl) ?_
          refine AList.c 65 rfl rfl rfl (OpJ.load (v := .p (.agg (Dp.cells ⟨(k : Int), (stH p o i)⟩))) rfl rfl ty49 rfl) ?_
          refine AList.c 66 rfl rfl rfl (OpJ.callBt 3 (early_A hp hi9 hg2 ⟨(k : Int), (stH p o i)⟩ hsB.1 (by show stH p o i ≤ _; omega)) rfl rfl rfl rfl (mapO.c brwP (mapO.c (brwAcc rfl) (mapO.c brwP mapO.n))) rf54) ?_
          refine AList.c 62 rfl rfl rfl (OpJ.move rfl rfl) ?_
          refine AList.c 67 rfl rfl rfl (OpJ.extract rfl rfl rfl) ?_
          refine AList.c 68 rfl rfl rfl (OpJ.extract rfl rfl rfl) ?_
          refine AList.c 69 rfl rfl rfl (OpJ.extract rfl rfl rfl) ?_
          refine AList.c 10 rfl rfl rfl (OpJ.assign rfl rfl) ?_
          refine AList.c 11 rfl rfl rfl (OpJ.assign rfl rfl) ?_
          refine AList.c 12 rfl rfl rfl (OpJ.assign rfl rfl) ?_
          refine AList.nil ?_
          refine AWp.seq ?_
          refine AWp.block ?_
          refine AWp.loopHL [1, 2, 7, 8, 9, 13, 14, 15, 16, 17, 18, 19, 20, 21, 22, 23, 24, 25, 26, 27, 28, 29, 30, 31, 32, 33, 34, 35, 36, 37, 38, 39, 40, 41, 42, 43, 44, 45, 46, 47, 48, 49, 50, 51, 52, 53, 54, 55, 56, 57, 58, 59, 60, 61, 62, 63, 64, 65, 66, 67, 68, 69, 89, 90, 91, 92, 93, 94, 95, 96, 97, 98, 99, 100, 101, 102, 103, 104, 105, 106, 107] (fun t => [(10, .p (.bool (erO p (mkD p o i) ⟨(k : Int), t⟩))), (11, .p (.bool (erS p (mkD p o i) ⟨(k : Int), t⟩))), (12, .p (.bool (erH p (mkD p o i) ⟨(k : Int), t⟩)))]) (fun t => [accB (((mkD p o i).flatMap Dp.cells).map .p) 49 i, .cells [.p (.int .i64 ((k : Nat) : Int)), .p (.int .i64 t)] 49]) (fun t => stH p o i ≤ t ∧ t ≤ (timeN p (stN p o i) k)) (fun t => ((timeN p (stN p o i) k) - t).toNat) (stH p o i) ⟨Int.le_refl _, hsB.2⟩ (To.sub (Sub.chk (Sub.cons rfl (Sub.cons rfl (Sub.cons rfl (Sub.nil)))))) (fun t hg => ?_)
          obtain ⟨ht1, ht2⟩ := hg
          refine AWp.seq ?_
          refine AWp.seq ?_
          refine AWp.region ?_
          refine AList.c 70 rfl rfl rfl (OpJ.move rfl rfl) ?_
          refine AList.c 71 rfl rfl rfl (OpJ.move rfl rfl) ?_
          refine AList.g 72 71 rfl rfl rfl rfl rfl rfl rfl [(11, _)] (fun h => And.intro (.inl rfl) (trivial)) (fun h => (OpJ.move rfl rfl)) ?_
          refine AList.c 73 rfl rfl rfl (OpJ.or_ rfl rfl rfl ?_) ?_
          · first | (intro h; rw [h]; rfl) | (intro h; simp_all)
          refine AList.c 74 rfl rfl rfl (OpJ.move rfl rfl) ?_
          refine AList.g 75 74 rfl rfl rfl rfl rfl rfl rfl [(12, _)] (fun h => And.intro (.inl rfl) (trivial)) (fun h => (OpJ.move rfl rfl)) ?_
          refine AList.c 76 rfl rfl rfl (OpJ.or_ rfl rfl rfl ?_) ?_
          · first | (intro h; rw [h]; rfl) | (intro h; simp_all)
          refine AList.nil ?_
          refine AWp.cond _ rfl (fun hc4 => ?_) (fun hc4 => ?_)
          · skip
            have hlt : t < (timeN p (stN p o i) k) := by
              rcases Int.lt_or_eq_of_le ht2 with h | h
              · exact h
              · exfalso
                have h2 := ear_at hp hi9 hg2 hkl
                rw [← h] at h2
                rw [show earB p (mkD p o i) ⟨(k : Int), t⟩ = true from hc4] at h2
                cases h2
            refine AWp.skip ?_
            refine AWp.block ?_
            refine AWp.seq ?_
            refine AWp.region ?_
            refine AList.c 77 rfl rfl rfl (OpJ.fieldAddr rfl rfl fd49_1 rfl) ?_
            refine AList.c 78 rfl rfl rfl (OpJ.load (v := .p (.int .i64 t)) rfl rfl ty3 rfl) ?_
            refine AList.c 79 rfl rfl rfl (OpJ.add rfl rfl rfl (i64ok ?_)) ?_
            · omega
            refine AList.c 80 rfl rfl rfl (OpJ.fieldAddr rfl rfl fd49_1 rfl) ?_
            refine AList.c0 rfl rfl (OpJ.store (H' := [accB (((mkD p o i).flatMap Dp.cells).map .p) 49 i, .cells [.p (.int .i64 ((k : Nat) : Int)), .p (.int .i64 (t + 1))] 49]) rfl rfl rfl rfl rfl ty3 rfl rfl) ?_
            refine AList.nil ?_
            refine AWp.region ?_
            refine AList.c 82 rfl rfl rfl (OpJ.load (v := .p (pntV p)) rfl rfl ty24 rfl) ?_
            refine AList.c 83 rfl rfl rfl (OpJ.move rfl rfl) ?_
            refine AList.c 84 rfl rfl rfl (OpJ.load (v := .p (.agg (Dp.cells ⟨(k : Int), (t + 1)⟩))) rfl rfl ty49 rfl) ?_
            refine AList.c 85 rfl rfl rfl (OpJ.callBt 3 (early_A hp hi9 hg2 ⟨(k : Int), (t + 1)⟩ (by show 0 ≤ t + 1; omega) (by show t + 1 ≤ _; omega)) rfl rfl rfl rfl (mapO.c brwP (mapO.c (brwAcc rfl) (mapO.c brwP mapO.n))) rf54) ?_
            refine AList.c 81 rfl rfl rfl (OpJ.move rfl rfl) ?_
            refine AList.c 86 rfl rfl rfl (OpJ.extract rfl rfl rfl) ?_
            refine AList.c 87 rfl rfl rfl (OpJ.extract rfl rfl rfl) ?_
            refine AList.c 88 rfl rfl rfl (OpJ.extract rfl rfl rfl) ?_
            refine AList.c 10 rfl rfl rfl (OpJ.assign rfl rfl) ?_
            refine AList.c 11 rfl rfl rfl (OpJ.assign rfl rfl) ?_
            refine AList.c 12 rfl rfl rfl (OpJ.assign rfl rfl) ?_
            refine AList.nil ?_
            refine ⟨t + 1, ?_, ?_, ?_⟩
            · exact ⟨by omega, by omega⟩
            · omega
            exact To.sub (Sub.cons rfl (Sub.cons rfl (Sub.cons rfl (by repeat (first | exact Sub.nil | refine Sub.cons rfl ?_)))))
          · skip
            obtain rfl : t = (timeN p (stN p o i) k) := by
              rcases Int.lt_or_eq_of_le ht2 with h | h
              · exfalso
                have h2 := ear_lt hp hi9 hg2 hkl (t := t) (by omega) h
                rw [show earB p (mkD p o i) ⟨(k : Int), t⟩ = false from hc4] at h2
                cases h2
              · exact h
            have eL := (ear_st hp hi9 hg2 hkl htB.1).2.2.1
            refine AWp.exit ?_
            refine AWp.seq ?_
            refine AWp.seq ?_
            refine AWp.region ?_
            refine AList.c 89 rfl rfl rfl (OpJ.load (v := .p (pntV p)) rfl rfl ty24 rfl) ?_
            refine AList.c 90 rfl rfl rfl (OpJ.move rfl rfl) ?_
            refine AList.c 91 rfl rfl rfl (OpJ.load (v := .p (.agg (Dp.cells ⟨(k : Int), (timeN p (stN p o i) k)⟩))) rfl rfl ty49 rfl) ?_
            refine AList.c 92 rfl rfl rfl (OpJ.callB 3 (late_A hp hi9 hg2 k hkl (timeN p (stN p o i) k)) rfl rfl rfl rfl rfl (mapO.c brwP (mapO.c (brwAcc rfl) (mapO.c brwP mapO.n))) rf55) ?_
            refine AList.nil ?_
            refine AWp.cond _ rfl (fun hc5 => ?_) (fun hc5 => ?_)
            · skip
              have e1 := err_11 hk hmy (by rw [← eL]; exact hc5)
              have te := times_err hT hk0 hg2 (by rw [e1]; decide)
              unfold dipR
              rw [te, e1]
              refine AWp.seq ?_
              refine AWp.region ?_
              refine AList.c 93 rfl rfl rfl (OpJ.move rfl rfl) ?_
              refine AList.c 4 rfl rfl rfl (OpJ.assign rfl rfl) ?_
              refine AList.c 5 rfl rfl rfl (OpJ.assign rfl rfl) ?_
              refine AList.c 6 rfl rfl rfl (OpJ.assign rfl rfl) ?_
              refine AList.nil ?_
              refine AWp.ret ?_
              exact Fin.manyE (xs := [.nilSlice, .int .i64 (i : Int), .int .i64 11]) rfl (⟨_, _, rfl, rfl, ⟨_, _, rfl, rfl, ⟨_, _, rfl, rfl, rfl⟩⟩⟩) rfl rfl
            · skip
              obtain ⟨e0, ehr⟩ := err_0 hk hmy (by rw [← eL, show erL p (mkD p o i) ⟨(k : Int), (timeN p (stN p o i) k)⟩ = false from hc5]; decide)
              refine AWp.skip ?_
              refine AWp.region ?_
              refine AList.c 94 rfl rfl rfl (OpJ.move rfl rfl) ?_
              refine AList.c 95 rfl rfl rfl (OpJ.load (v := .p (.agg (Dp.cells ⟨(k : Int), (timeN p (stN p o i) k)⟩))) rfl rfl ty49 rfl) ?_
              refine AList.c 96 rfl rfl rfl (OpJ.buildImm rfl slz25 (by decide) rfl rfl rfl) ?_
              refine AList.c 97 rfl rfl rfl (OpJ.appendAcc rfl rfl rfl slz25 sl25 rfl ?_ rfl (by decide) rfl by49 (by decide) ?_) ?_
              · rw [List.length_map, flat_len (c := 2) (fun _ => rfl), mkD_len]; rfl
              · omega
              refine AList.c 7 rfl rfl rfl (OpJ.assign rfl rfl) ?_
              refine AList.nil ?_
              refine AWp.region ?_
              refine AList.c 17 rfl rfl rfl (OpJ.move rfl rfl) ?_
              refine AList.c 18 rfl rfl rfl (OpJ.add rfl rfl rfl (i64ok ?_)) ?_
              · omega
              refine AList.c 8 rfl rfl rfl (OpJ.assign rfl rfl) ?_
              refine AList.nil ?_
              refine ⟨i + 1, ?_, ?_, ?_⟩
              · refine ⟨by omega, fun j hj => ?_⟩
                rcases Nat.lt_succ_iff_lt_or_eq.1 hj with h1 | rfl
                · exact hg2 j h1
                · exact e0
              · omega
              refine To.done [2] rfl (by repeat (first | exact Sub.nil | refine Sub.cons rfl ?_)) ?_
              show [Blk.row (renL _ (_ ++ _)) _] = _
              rw [renL_app, renL_pure, mkD_S, List.flatMap_append, List.map_append, hk, ehr]
              rfl
  · skip
    obtain rfl : i = o.length := by have h := of_decide_eq_false hc0; omega
    have te := times_end hT hg2
    refine AWp.exit ?_
    refine AWp.seq ?_
    refine AWp.seq ?_
    refine AWp.region ?_
    refine AList.c 98 rfl rfl rfl (OpJ.move rfl rfl) ?_
    refine AList.c 99 rfl rfl rfl (OpJ.lenSlice rfl rfl sl25 (show alen (accV 0 o.length) = some o.length from by cases o.length <;> rfl)) ?_
    refine AList.c 100 rfl rfl rfl (OpJ.load (v := .p (pntV p)) rfl rfl ty24 rfl) ?_
    refine AList.c 101 rfl rfl rfl (OpJ.callP (all_ok p (big14 (by omega)) (sums_ok hb hbd)) rfl rfl rfl rfl rf35) ?_
    refine AList.c 102 rfl rfl rfl (OpJ.lss rfl rfl rfl) ?_
    refine AList.nil ?_
    refine AWp.cond _ rfl (fun hc6 => ?_) (fun hc6 => ?_)
    · skip
      unfold dipR
      rw [te, if_pos (of_decide_eq_true hc6)]
      refine AWp.seq ?_
      refine AWp.region ?_
      refine AList.c 103 rfl rfl rfl (OpJ.move rfl rfl) ?_
      refine AList.c 104 rfl rfl rfl (OpJ.lenSlice rfl rfl sl25 (show alen (accV 0 o.length) = some o.length from by cases o.length <;> rfl)) ?_
      refine AList.c 4 rfl rfl rfl (OpJ.assign rfl rfl) ?_
      refine AList.c 5 rfl rfl rfl (OpJ.assign rfl rfl) ?_
      refine AList.c 6 rfl rfl rfl (OpJ.assign rfl rfl) ?_
      refine AList.nil ?_
      refine AWp.ret ?_
      exact Fin.manyE (xs := [.nilSlice, .int .i64 (o.length : Int), .int .i64 4]) rfl (⟨_, _, rfl, rfl, ⟨_, _, rfl, rfl, ⟨_, _, rfl, rfl, rfl⟩⟩⟩) rfl rfl
    · skip
      unfold dipR
      rw [te, if_neg (of_decide_eq_false hc6)]
      refine AWp.skip ?_
      refine AWp.seq ?_
      refine AWp.region ?_
      refine AList.c 105 rfl rfl rfl (OpJ.move rfl rfl) ?_
      refine AList.c 106 rfl rfl rfl (OpJ.move rfl rfl) ?_
      refine AList.c 107 rfl rfl rfl (OpJ.lenSlice rfl rfl sl25 (show alen (accV 0 o.length) = some o.length from by cases o.length <;> rfl)) ?_
      refine AList.c 4 rfl rfl rfl (OpJ.assign rfl rfl) ?_
      refine AList.c 5 rfl rfl rfl (OpJ.assign rfl rfl) ?_
      refine AList.c 6 rfl rfl rfl (OpJ.assign rfl rfl) ?_
      refine AList.nil ?_
      refine AWp.to (To.accD 4 0 o.length (xs := (mkD p o o.length).flatMap Dp.cells) rfl rfl (mk_nil p o o.length)) ?_
      refine AWp.ret ?_
      exact Fin.manyE (xs := [.is ((mkD p o o.length).flatMap Dp.cells) o.length, .int .i64 (o.length : Int), .int .i64 0]) rfl (⟨_, _, rfl, rfl, ⟨_, _, rfl, rfl, ⟨_, _, rfl, rfl, rfl⟩⟩⟩) rfl (by dsimp only; rw [if_pos rfl]; unfold dpsV; rw [mkD_len])
end Go.Proofs.Ytibgdkaipleajaa
end

section
set_option linter.unusedVariables false
set_option maxRecDepth 100000
set_option maxHeartbeats 4000000
set_option linter.unusedSimpArgs false
namespace Go.Proofs.Ytibgdkaipleajaa
open Go.AF
theorem dips_0 {p : Pnt} {o : List Int} (hb : p.bs.length ≤ 8) (hbd : ∀ b ∈ p.bs, b.dry.length ≤ 14) (ho : o.length ≤ 1000) (h : (timesR p o).2.2 = 0) : Pure Try.prog 37 [pntV p, intsV o] (.tuple [dpsV (mkD p o o.length), .int .i64 (o.length : Int), .int .i64 0]) := by
  obtain ⟨hT, _, _, et⟩ := times_0 h
  have h2 := dips_ok p o hb hbd hT ho
  unfold dipR at h2
  rw [if_pos h, et] at h2
  exact h2
theorem dips_E {p : Pnt} {o : List Int} (hb : p.bs.length ≤ 8) (hbd : ∀ b ∈ p.bs, b.dry.length ≤ 14) (hT : pntB p = true) (ho : o.length ≤ 1000) (h : ¬ (timesR p o).2.2 = 0) : Pure Try.prog 37 [pntV p, intsV o] (.tuple [.nilSlice, .int .i64 (timesR p o).2.1, .int .i64 (timesR p o).2.2]) := by
  have h2 := dips_ok p o hb hbd hT ho
  unfold dipR at h2
  rw [if_neg h] at h2
  exact h2
theorem rTimes_0 (p : Pnt) (o : List Int) (hb : p.bs.length ≤ 8) (hbd : ∀ b ∈ p.bs, b.dry.length ≤ 14) (h : (timesR p o).2.2 = 0) (ho : o.length ≤ 1000) : Pure Try.prog 14 [pntV p, intsV o] (tmV (timesR p o)) := by
  obtain ⟨hT, hall, _, et⟩ := times_0 h
  rw [et]
  refine Pure.start (N := 39) Try.func14 rfl rfl (Nat.le_of_ble_eq_true rfl) ?_
  refine AWp.seq ?_
  refine AWp.region ?_
  refine AList.c 2 rfl rfl rfl (OpJ.boxImm rfl rfl rfl) ?_
  refine AList.c 4 rfl rfl rfl (OpJ.assign rfl rfl) ?_
  refine AList.c 5 rfl rfl rfl (OpJ.assign rfl rfl) ?_
  refine AList.c 6 rfl rfl rfl (OpJ.assign rfl rfl) ?_
  refine AList.nil ?_
  refine AWp.seq ?_
  refine AWp.seq ?_
  refine AWp.region ?_
  refine AList.c 12 rfl rfl rfl (OpJ.load (v := .p (pntV p)) rfl rfl ty24 rfl) ?_
  refine AList.c 13 rfl rfl rfl (OpJ.callP (rPaint_ok p hb hbd) rfl rfl rfl rfl rf20) ?_
  refine AList.c 14 rfl rfl rfl (OpJ.not_ rfl rfl) ?_
  refine AList.nil ?_
  refine AWp.cond _ rfl (fun hc0 => ?_) (fun hc0 => ?_)
  · skip
    exfalso
    rw [hT] at hc0
    cases hc0
  · skip
    refine AWp.skip ?_
    refine AWp.seq ?_
    refine AWp.region ?_
    refine AList.c 16 rfl rfl rfl (OpJ.load (v := .p (pntV p)) rfl rfl ty24 rfl) ?_
    refine AList.c 17 rfl rfl rfl (OpJ.move rfl rfl) ?_
    refine AList.c 18 rfl rfl rfl (OpJ.callP (dips_0 hb hbd ho h) rfl rfl rfl rfl rf37) ?_
    refine AList.c 15 rfl rfl rfl (OpJ.move rfl rfl) ?_
    refine AList.c 19 rfl rfl rfl (OpJ.extract rfl rfl rfl) ?_
    refine AList.c 20 rfl rfl rfl (OpJ.extract rfl rfl rfl) ?_
    refine AList.c 21 rfl rfl rfl (OpJ.extract rfl rfl rfl) ?_
    refine AList.c 7 rfl rfl rfl (OpJ.assign rfl rfl) ?_
    refine AList.c 8 rfl rfl rfl (OpJ.assign rfl rfl) ?_
    refine AList.c 9 rfl rfl rfl (OpJ.assign rfl rfl) ?_
    refine AList.nil ?_
    refine AWp.seq ?_
    refine AWp.region ?_
    refine AList.c 10 rfl rfl rfl (OpJ.assign rfl rfl) ?_
    refine AList.nil ?_
    refine AWp.seq ?_
    refine AWp.seq ?_
    refine AWp.region ?_
    refine AList.c 11 rfl rfl rfl (OpJ.assign rfl rfl) ?_
    refine AList.nil ?_
    refine AWp.block ?_
    refine AWp.to To.pad ?_
    refine AWp.loopHL [7, 8, 9, 36, 37, 38] (fun g => [(11, .p (.int .i64 ((g : Nat) : Int))), (10, accV 0 g)]) (fun g => [accB (((hrs p o g).flatMap i1).map .p) 3 g]) (fun g => g ≤ o.length) (fun g => o.length - g) 0 (Nat.zero_le _) (To.sub (Sub.chk (Sub.cons rfl (Sub.cons rfl (Sub.nil))))) (fun i hg => ?_)
    refine AWp.seq ?_
    refine AWp.seq ?_
    refine AWp.region ?_
    refine AList.c 22 rfl rfl rfl (OpJ.move rfl rfl) ?_
    refine AList.c 23 rfl rfl rfl (OpJ.move rfl rfl) ?_
    refine AList.c 24 rfl rfl rfl (OpJ.lenSlice rfl rfl sl25 rfl) ?_
    refine AList.c 25 rfl rfl rfl (OpJ.lss rfl rfl rfl) ?_
    refine AList.nil ?_
    refine AWp.cond _ rfl (fun hc1 => ?_) (fun hc1 => ?_)
    · skip
      have hk0 : i < o.length := by have h := of_decide_eq_true hc1; rw [mkD_len] at h; omega
      refine AWp.skip ?_
      refine AWp.seq ?_
      refine AWp.block ?_
      refine AWp.region ?_
      refine AList.c 28 rfl rfl rfl (OpJ.move rfl rfl) ?_
      refine AList.c 29 rfl rfl rfl (OpJ.move rfl rfl) ?_
      refine AList.c 30 rfl rfl rfl (OpJ.move rfl rfl) ?_
      refine AList.c 31 rfl rfl rfl (OpJ.indexG (g := dpt (mkD p o o.length)) dpt_get rfl rfl rfl sl25 el25 rfl (fun _ => rfl) (by decide) (by rw [mkD_len]; exact hk0)) ?_
      refine AList.c 32 rfl rfl rfl (OpJ.fieldAddr rfl rfl fd49_1 rfl) ?_
      refine AList.c 33 rfl rfl rfl (OpJ.load (v := .p (.int .i64 (hrI p o i))) rfl rfl ty3 (congrArg (fun z => some (V.p (PV.int .i64 (Dp.h z)))) (mkD_at p o hk0))) ?_
      refine AList.c 34 rfl rfl rfl (OpJ.buildImm rfl slz26 (by decide) rfl rfl rfl) ?_
      refine AList.c 35 rfl rfl rfl (OpJ.appendAcc rfl rfl rfl slz26 sl26 rfl ?_ rfl (by decide) rfl by3 (by decide) ?_) ?_
      · rw [List.length_map, flat_len (c := 1) (fun _ => rfl), hrs_len]; rfl
      · omega
      refine AList.c 10 rfl rfl rfl (OpJ.assign rfl rfl) ?_
      refine AList.nil ?_
      refine AWp.region ?_
      refine AList.c 26 rfl rfl rfl (OpJ.move rfl rfl) ?_
      refine AList.c 27 rfl rfl rfl (OpJ.add rfl rfl rfl (i64ok ?_)) ?_
      · omega
      refine AList.c 11 rfl rfl rfl (OpJ.assign rfl rfl) ?_
      refine AList.nil ?_
      refine ⟨i + 1, ?_, ?_, ?_⟩
      · omega
      · omega
      refine To.done [1] rfl (by repeat (first | exact Sub.nil | refine Sub.cons rfl ?_)) ?_
      show [Blk.row (renL _ (_ ++ _)) _] = _
      rw [renL_app, renL_pure, hrs_S, List.flatMap_append, List.map_append]
      rfl
    · skip
      obtain rfl : i = o.length := by have h := of_decide_eq_false hc1; rw [mkD_len] at h; omega
      refine AWp.exit ?_
      refine AWp.seq ?_
      refine AWp.region ?_
      refine AList.c 36 rfl rfl rfl (OpJ.move rfl rfl) ?_
      refine AList.c 37 rfl rfl rfl (OpJ.move rfl rfl) ?_
      refine AList.c 38 rfl rfl rfl (OpJ.move rfl rfl) ?_
      refine AList.c 4 rfl rfl rfl (OpJ.assign rfl rfl) ?_
      refine AList.c 5 rfl rfl rfl (OpJ.assign rfl rfl) ?_
      refine AList.c 6 rfl rfl rfl (OpJ.assign rfl rfl) ?_
      refine AList.nil ?_
      refine AWp.to (To.accD 4 0 o.length (xs := (hrs p o o.length).flatMap i1) rfl rfl (fun h => by rw [List.eq_nil_of_length_eq_zero (show (hrs p o o.length).length = 0 by rw [hrs_len]; exact h)]; rfl)) ?_
      refine AWp.ret ?_
      exact Fin.manyE (xs := [.is ((hrs p o o.length).flatMap i1) o.length, .int .i64 (o.length : Int), .int .i64 0]) rfl (⟨_, _, rfl, rfl, ⟨_, _, rfl, rfl, ⟨_, _, rfl, rfl, rfl⟩⟩⟩) rfl (by unfold tmL; dsimp only; rw [if_pos rfl]; unfold intsV; rw [hrs_len])
theorem rTimes_E (p : Pnt) (o : List Int) (hb : p.bs.length ≤ 8) (hbd : ∀ b ∈ p.bs, b.dry.length ≤ 14) (hT : pntB p = true) (h : ¬ (timesR p o).2.2 = 0) (ho : o.length ≤ 1000) : Pure Try.prog 14 [pntV p, intsV o] (tmV (timesR p o)) := by
  refine Pure.start (N := 39) Try.func14 rfl rfl (Nat.le_of_ble_eq_true rfl) ?_
  refine AWp.seq ?_
  refine AWp.region ?_
  refine AList.c 2 rfl rfl rfl (OpJ.boxImm rfl rfl rfl) ?_
  refine AList.c 4 rfl rfl rfl (OpJ.assign rfl rfl) ?_
  refine AList.c 5 rfl rfl rfl (OpJ.assign rfl rfl) ?_
  refine AList.c 6 rfl rfl rfl (OpJ.assign rfl rfl) ?_
  refine AList.nil ?_
  refine AWp.seq ?_
  refine AWp.seq ?_
  refine AWp.region ?_
  refine AList.c 12 rfl rfl rfl (OpJ.load (v := .p (pntV p)) rfl rfl ty24 rfl) ?_
  refine AList.c 13 rfl rfl rfl (OpJ.callP (rPaint_ok p hb hbd) rfl rfl rfl rfl rf20) ?_
  refine AList.c 14 rfl rfl rfl (OpJ.not_ rfl rfl) ?_
  refine AList.nil ?_
  refine AWp.cond _ rfl (fun hc0 => ?_) (fun hc0 => ?_)
  · skip
    exfalso
    rw [hT] at hc0
    cases hc0
  · skip
    refine AWp.skip ?_
    refine AWp.seq ?_
    refine AWp.region ?_
    refine AList.c 16 rfl rfl rfl (OpJ.load (v := .p (pntV p)) rfl rfl ty24 rfl) ?_
    refine AList.c 17 rfl rfl rfl (OpJ.move rfl rfl) ?_
    refine AList.c 18 rfl rfl rfl (OpJ.callP (dips_E hb hbd hT ho h) rfl rfl rfl rfl rf37) ?_
    refine AList.c 15 rfl rfl rfl (OpJ.move rfl rfl) ?_
    refine AList.c 19 rfl rfl rfl (OpJ.extract rfl rfl rfl) ?_
    refine AList.c 20 rfl rfl rfl (OpJ.extract rfl rfl rfl) ?_
    refine AList.c 21 rfl rfl rfl (OpJ.extract rfl rfl rfl) ?_
    refine AList.c 7 rfl rfl rfl (OpJ.assign rfl rfl) ?_
    refine AList.c 8 rfl rfl rfl (OpJ.assign rfl rfl) ?_
    refine AList.c 9 rfl rfl rfl (OpJ.assign rfl rfl) ?_
    refine AList.nil ?_
    refine AWp.seq ?_
    refine AWp.region ?_
    refine AList.c 10 rfl rfl rfl (OpJ.assign rfl rfl) ?_
    refine AList.nil ?_
    refine AWp.seq ?_
    refine AWp.seq ?_
    refine AWp.region ?_
    refine AList.c 11 rfl rfl rfl (OpJ.assign rfl rfl) ?_
    refine AList.nil ?_
    refine AWp.block ?_
    refine AWp.unroll 1 ?_
    refine ARounds.next ?_
    refine AWp.seq ?_
    refine AWp.seq ?_
    refine AWp.region ?_
    refine AList.c 22 rfl rfl rfl (OpJ.move rfl rfl) ?_
    refine AList.c 23 rfl rfl rfl (OpJ.move rfl rfl) ?_
    refine AList.c 24 rfl rfl rfl (OpJ.lenSlice rfl rfl sl25 rfl) ?_
    refine AList.c 25 rfl rfl rfl (OpJ.lss rfl rfl rfl) ?_
    refine AList.nil ?_
    refine AWp.condF rfl ?_
    refine AWp.exit ?_
    refine AWp.seq ?_
    refine AWp.region ?_
    refine AList.c 36 rfl rfl rfl (OpJ.move rfl rfl) ?_
    refine AList.c 37 rfl rfl rfl (OpJ.move rfl rfl) ?_
    refine AList.c 38 rfl rfl rfl (OpJ.move rfl rfl) ?_
    refine AList.c 4 rfl rfl rfl (OpJ.assign rfl rfl) ?_
    refine AList.c 5 rfl rfl rfl (OpJ.assign rfl rfl) ?_
    refine AList.c 6 rfl rfl rfl (OpJ.assign rfl rfl) ?_
    refine AList.nil ?_
    refine AWp.ret ?_
    have e2 : tmL (timesR p o) = .nilSlice := if_neg h
    unfold tmV
    rw [e2]
    exact Fin.manyE (xs := [.nilSlice, .int .i64 (timesR p o).2.1, .int .i64 (timesR p o).2.2]) rfl (⟨_, _, rfl, rfl, ⟨_, _, rfl, rfl, ⟨_, _, rfl, rfl, rfl⟩⟩⟩) rfl rfl
theorem rTimes_A (p : Pnt) (o : List Int) (hb : p.bs.length ≤ 8) (hbd : ∀ b ∈ p.bs, b.dry.length ≤ 14) (hT : pntB p = false) : Pure Try.prog 14 [pntV p, intsV o] (tmV (timesR p o)) := by
  rw [times_arg o hT]
  refine Pure.start (N := 39) Try.func14 rfl rfl (Nat.le_of_ble_eq_true rfl) ?_
  refine AWp.seq ?_
  refine AWp.region ?_
  refine AList.c 2 rfl rfl rfl (OpJ.boxImm rfl rfl rfl) ?_
  refine AList.c 4 rfl rfl rfl (OpJ.assign rfl rfl) ?_
  refine AList.c 5 rfl rfl rfl (OpJ.assign rfl rfl) ?_
  refine AList.c 6 rfl rfl rfl (OpJ.assign rfl rfl) ?_
  refine AList.nil ?_
  refine AWp.seq ?_
  refine AWp.seq ?_
  refine AWp.region ?_
  refine AList.c 12 rfl rfl rfl (OpJ.load (v := .p (pntV p)) rfl rfl ty24 rfl) ?_
  refine AList.c 13 rfl rfl rfl (OpJ.callP (rPaint_ok p hb hbd) rfl rfl rfl rfl rf20) ?_
  refine AList.c 14 rfl rfl rfl (OpJ.not_ rfl rfl) ?_
  refine AList.nil ?_
  refine AWp.cond _ rfl (fun hc0 => ?_) (fun hc0 => ?_)
  · skip
    refine AWp.seq ?_
    refine AWp.region ?_
    refine AList.c 4 rfl rfl rfl (OpJ.assign rfl rfl) ?_
    refine AList.c 5 rfl rfl rfl (OpJ.assign rfl rfl) ?_
    refine AList.c 6 rfl rfl rfl (OpJ.assign rfl rfl) ?_
    refine AList.nil ?_
    refine AWp.ret ?_
    exact Fin.manyE (xs := [.nilSlice, .int .i64 0, .int .i64 1]) rfl (⟨_, _, rfl, rfl, ⟨_, _, rfl, rfl, ⟨_, _, rfl, rfl, rfl⟩⟩⟩) rfl rfl
  · skip
    exfalso
    rw [hT] at hc0
    cases hc0
theorem rTimes_ok (p : Pnt) (o : List Int) (hb : p.bs.length ≤ 8) (hbd : ∀ b ∈ p.bs, b.dry.length ≤ 14) (ho : o.length ≤ 1000) : Pure Try.prog 14 [pntV p, intsV o] (tmV (timesR p o)) := by
  cases hT : pntB p with
  | false => exact rTimes_A p o hb hbd hT
  | true =>
    by_cases h : (timesR p o).2.2 = 0
    · exact rTimes_0 p o hb hbd h ho
    · exact rTimes_E p o hb hbd hT h ho
end Go.Proofs.Ytibgdkaipleajaa
end

section
set_option linter.unusedVariables false
set_option maxRecDepth 100000
set_option maxHeartbeats 4000000
set_option linter.unusedSimpArgs false
namespace Go.Proofs.Ytibgdkaipleajaa
open Go.AF
theorem rWet_A (p : Pnt) (o : List Int) (hour : Int) (hb : p.bs.length ≤ 8) (hbd : ∀ b ∈ p.bs, b.dry.length ≤ 14) (hT : pntB p = false) : Pure Try.prog 16 [pntV p, intsV o, .int .i64 hour] (wetV (wetR p o hour)) := by
  have e : wetR p o hour = (⟨0, 0⟩, 1) := by unfold wetR; rw [times_arg o hT]; rfl
  rw [e]
  refine Pure.start (N := 102) Try.func16 rfl rfl (Nat.le_of_ble_eq_true rfl) ?_
  refine AWp.seq ?_
  refine AWp.region ?_
  refine AList.c 3 rfl rfl rfl (OpJ.boxImm rfl rfl rfl) ?_
  refine AList.c 6 rfl rfl rfl (OpJ.allocOwn rfl zr35 rfl) ?_
  refine AList.c 7 rfl rfl rfl (OpJ.assign rfl rfl) ?_
  refine AList.nil ?_
  refine AWp.seq ?_
  refine AWp.seq ?_
  refine AWp.region ?_
  refine AList.c 18 rfl rfl rfl (OpJ.load (v := .p (pntV p)) rfl rfl ty24 rfl) ?_
  refine AList.c 19 rfl rfl rfl (OpJ.callP (rPaint_ok p hb hbd) rfl rfl rfl rfl rf20) ?_
  refine AList.c 20 rfl rfl rfl (OpJ.not_ rfl rfl) ?_
  refine AList.nil ?_
  refine AWp.cond _ rfl (fun hc0 => ?_) (fun hc0 => ?_)
  · skip
    refine AWp.seq ?_
    refine AWp.region ?_
    refine AList.c 21 rfl rfl rfl (OpJ.build rfl bd35 rfl rfl) ?_
    refine AList.c0 rfl rfl (OpJ.store rfl rfl rfl rfl rfl ty35 rfl rfl) ?_
    refine AList.c 7 rfl rfl rfl (OpJ.assign rfl rfl) ?_
    refine AList.nil ?_
    refine AWp.ret ?_
    exact Fin.manyE (xs := [.agg [.int .i64 0, .int .i64 0], .int .i64 1]) rfl (⟨_, _, rfl, ⟨_, _, _, rfl, ty35, rfl⟩, ⟨_, _, rfl, rfl, rfl⟩⟩) rfl rfl
  · skip
    exfalso
    rw [hT] at hc0
    cases hc0
theorem rWet_E (p : Pnt) (o : List Int) (hour : Int) (hb : p.bs.length ≤ 8) (hbd : ∀ b ∈ p.bs, b.dry.length ≤ 14) (hT : pntB p = true) (h : ¬ (timesR p o).2.2 = 0) (ho : o.length ≤ 1000) : Pure Try.prog 16 [pntV p, intsV o, .int .i64 hour] (wetV (wetR p o hour)) := by
  have e : wetR p o hour = (⟨0, 0⟩, (timesR p o).2.2) := if_pos h
  rw [e]
  refine Pure.start (N := 102) Try.func16 rfl rfl (Nat.le_of_ble_eq_true rfl) ?_
  refine AWp.seq ?_
  refine AWp.region ?_
  refine AList.c 3 rfl rfl rfl (OpJ.boxImm rfl rfl rfl) ?_
  refine AList.c 6 rfl rfl rfl (OpJ.allocOwn rfl zr35 rfl) ?_
  refine AList.c 7 rfl rfl rfl (OpJ.assign rfl rfl) ?_
  refine AList.nil ?_
  refine AWp.seq ?_
  refine AWp.seq ?_
  refine AWp.region ?_
  refine AList.c 18 rfl rfl rfl (OpJ.load (v := .p (pntV p)) rfl rfl ty24 rfl) ?_
  refine AList.c 19 rfl rfl rfl (OpJ.callP (rPaint_ok p hb hbd) rfl rfl rfl rfl rf20) ?_
  refine AList.c 20 rfl rfl rfl (OpJ.not_ rfl rfl) ?_
  refine AList.nil ?_
  refine AWp.cond _ rfl (fun hc0 => ?_) (fun hc0 => ?_)
  · skip
    exfalso
    rw [hT] at hc0
    cases hc0
  · skip
    refine AWp.skip ?_
    refine AWp.seq ?_
    refine AWp.region ?_
    refine AList.c 23 rfl rfl rfl (OpJ.load (v := .p (pntV p)) rfl rfl ty24 rfl) ?_
    refine AList.c 24 rfl rfl rfl (OpJ.move rfl rfl) ?_
    refine AList.c 25 rfl rfl rfl (OpJ.callP (dips_E hb hbd hT ho h) rfl rfl rfl rfl rf37) ?_
    refine AList.c 22 rfl rfl rfl (OpJ.move rfl rfl) ?_
    refine AList.c 26 rfl rfl rfl (OpJ.extract rfl rfl rfl) ?_
    refine AList.c 27 rfl rfl rfl (OpJ.extract rfl rfl rfl) ?_
    refine AList.c 28 rfl rfl rfl (OpJ.extract rfl rfl rfl) ?_
    refine AList.c 8 rfl rfl rfl (OpJ.assign rfl rfl) ?_
    refine AList.c 9 rfl rfl rfl (OpJ.assign rfl rfl) ?_
    refine AList.c 10 rfl rfl rfl (OpJ.assign rfl rfl) ?_
    refine AList.nil ?_
    refine AWp.seq ?_
    refine AWp.seq ?_
    refine AWp.region ?_
    refine AList.c 29 rfl rfl rfl (OpJ.move rfl rfl) ?_
    refine AList.c 30 rfl rfl rfl (OpJ.neq rfl rfl rfl) ?_
    refine AList.nil ?_
    refine AWp.cond _ rfl (fun hc1 => ?_) (fun hc1 => ?_)
    · skip
      refine AWp.seq ?_
      refine AWp.region ?_
      refine AList.c 31 rfl rfl rfl (OpJ.build rfl bd35 rfl rfl) ?_
      refine AList.c 32 rfl rfl rfl (OpJ.move rfl rfl) ?_
      refine AList.c0 rfl rfl (OpJ.store rfl rfl rfl rfl rfl ty35 rfl rfl) ?_
      refine AList.c 7 rfl rfl rfl (OpJ.assign rfl rfl) ?_
      refine AList.nil ?_
      refine AWp.ret ?_
      exact Fin.manyE (xs := [.agg [.int .i64 0, .int .i64 0], .int .i64 (timesR p o).2.2]) rfl (⟨_, _, rfl, ⟨_, _, _, rfl, ty35, rfl⟩, ⟨_, _, rfl, rfl, rfl⟩⟩) rfl rfl
    · skip
      exfalso
      exact h (by simpa using hc1)
theorem rWet_R (p : Pnt) (o : List Int) (hour : Int) (hb : p.bs.length ≤ 8) (hbd : ∀ b ∈ p.bs, b.dry.length ≤ 14) (h : (timesR p o).2.2 = 0) (ho : o.length ≤ 1000) (hh : inB hour 0 1048576 = false) : Pure Try.prog 16 [pntV p, intsV o, .int .i64 hour] (wetV (wetR p o hour)) := by
  obtain ⟨hT, hall, _, et⟩ := times_0 h
  have e : wetR p o hour = (⟨0, 0⟩, 2) := (if_neg (not_not_intro h)).trans (if_pos hh)
  rw [e]
  refine Pure.start (N := 102) Try.func16 rfl rfl (Nat.le_of_ble_eq_true rfl) ?_
  refine AWp.seq ?_
  refine AWp.region ?_
  refine AList.c 3 rfl rfl rfl (OpJ.boxImm rfl rfl rfl) ?_
  refine AList.c 6 rfl rfl rfl (OpJ.allocOwn rfl zr35 rfl) ?_
  refine AList.c 7 rfl rfl rfl (OpJ.assign rfl rfl) ?_
  refine AList.nil ?_
  refine AWp.seq ?_
  refine AWp.seq ?_
  refine AWp.region ?_
  refine AList.c 18 rfl rfl rfl (OpJ.load (v := .p (pntV p)) rfl rfl ty24 rfl) ?_
  refine AList.c 19 rfl rfl rfl (OpJ.callP (rPaint_ok p hb hbd) rfl rfl rfl rfl rf20) ?_
  refine AList.c 20 rfl rfl rfl (OpJ.not_ rfl rfl) ?_
  refine AList.nil ?_
  refine AWp.cond _ rfl (fun hc0 => ?_) (fun hc0 => ?_)
  · skip
    exfalso
    rw [hT] at hc0
    cases hc0
  · skip
    refine AWp.skip ?_
    refine AWp.seq ?_
    refine AWp.region ?_
    refine AList.c 23 rfl rfl rfl (OpJ.load (v := .p (pntV p)) rfl rfl ty24 rfl) ?_
    refine AList.c 24 rfl rfl rfl (OpJ.move rfl rfl) ?_
    refine AList.c 25 rfl rfl rfl (OpJ.callP (dips_0 hb hbd ho h) rfl rfl rfl rfl rf37) ?_
    refine AList.c 22 rfl rfl rfl (OpJ.move rfl rfl) ?_
    refine AList.c 26 rfl rfl rfl (OpJ.extract rfl rfl rfl) ?_
    refine AList.c 27 rfl rfl rfl (OpJ.extract rfl rfl rfl) ?_
    refine AList.c 28 rfl rfl rfl (OpJ.extract rfl rfl rfl) ?_
    refine AList.c 8 rfl rfl rfl (OpJ.assign rfl rfl) ?_
    refine AList.c 9 rfl rfl rfl (OpJ.assign rfl rfl) ?_
    refine AList.c 10 rfl rfl rfl (OpJ.assign rfl rfl) ?_
    refine AList.nil ?_
    refine AWp.seq ?_
    refine AWp.seq ?_
    refine AWp.region ?_
    refine AList.c 29 rfl rfl rfl (OpJ.move rfl rfl) ?_
    refine AList.c 30 rfl rfl rfl (OpJ.neq rfl rfl rfl) ?_
    refine AList.nil ?_
    refine AWp.cond _ rfl (fun hc1 => ?_) (fun hc1 => ?_)
    · skip
      exfalso
      cases hc1
    · skip
      refine AWp.skip ?_
      refine AWp.seq ?_
      refine AWp.seq ?_
      refine AWp.region ?_
      refine AList.c 33 rfl rfl rfl (OpJ.move rfl rfl) ?_
      refine AList.c 34 rfl rfl rfl (OpJ.callP (in_ok _ _ _) rfl rfl rfl rfl rf38) ?_
      refine AList.c 35 rfl rfl rfl (OpJ.not_ rfl rfl) ?_
      refine AList.nil ?_
      refine AWp.cond _ rfl (fun hc2 => ?_) (fun hc2 => ?_)
      · skip
        refine AWp.seq ?_
        refine AWp.region ?_
        refine AList.c 36 rfl rfl rfl (OpJ.build rfl bd35 rfl rfl) ?_
        refine AList.c0 rfl rfl (OpJ.store rfl rfl rfl rfl rfl ty35 rfl rfl) ?_
        refine AList.c 7 rfl rfl rfl (OpJ.assign rfl rfl) ?_
        refine AList.nil ?_
        refine AWp.ret ?_
        exact Fin.manyE (xs := [.agg [.int .i64 0, .int .i64 0], .int .i64 2]) rfl (⟨_, _, rfl, ⟨_, _, _, rfl, ty35, rfl⟩, ⟨_, _, rfl, rfl, rfl⟩⟩) rfl rfl
      · skip
        exfalso
        rw [hh] at hc2
        cases hc2
end Go.Proofs.Ytibgdkaipleajaa
end

section
set_option linter.unusedVariables false
set_option maxRecDepth 100000
set_option maxHeartbeats 4000000
set_option linter.unusedSimpArgs false
namespace Go.Proofs.Ytibgdkaipleajaa
open Go.AF
theorem frz_acc (xs : List PV) (n : Nat) : frzV 3 xs (accV 1 n) = accV 1 n := by cases n <;> rfl
theorem last_A {p : Pnt} (hp : Ok p) {l : List Dp} (hG : Good p l) (hl : l.length ≤ 1000) (b : Int) : Pure Try.prog 39 [pntV p, accP (l.flatMap Dp.cells) l.length, .int .i64 b] (.tuple [.int .i64 (lastD p l b l.length).1, .agg (lastD p l b l.length).2.1.cells, .bool (lastD p l b l.length).2.2]) :=
  Pure.acc [pntV p] (fun h => by rw [List.eq_nil_of_length_eq_zero h]; rfl) (last_ok p hp l hG hl b)
theorem rWet_O (p : Pnt) (o : List Int) (hour : Int) (hb : p.bs.length ≤ 8) (hbd : ∀ b ∈ p.bs, b.dry.length ≤ 14) (h : (timesR p o).2.2 = 0) (ho : o.length ≤ 1000) (hh : inB hour 0 1048576 = true) : Pure Try.prog 16 [pntV p, intsV o, .int .i64 hour] (wetV (wetR p o hour)) := by
  obtain ⟨hT, hall, _, et⟩ := times_0 h
  have hp := pnt_ok hT
  have hd := hp.dip
  have hn4 := hp.n
  have hho := hour_in hh
  obtain ⟨hfs, hGE⟩ := end_ws hp hour o.length ho hall
  have hel := endD_len p o hour o.length
  have e : wetR p o hour = (⟨cntB (wl (wsN p o hour o.length) hour) 4, cntB (wh (wsN p o hour o.length) hour) 4⟩, 0) := (if_neg (not_not_intro h)).trans (if_neg (by rw [hh]; decide))
  have hout := ws_out hp hour o.length hall
  have cl := cnt_out (f := wl (wsN p o hour o.length) hour) (n := p.bs.length) (fun k hk => by unfold wl; rw [hout k hk]; rfl) 4 (by omega)
  have ch := cnt_out (f := wh (wsN p o hour o.length) hour) (n := p.bs.length) (fun k hk => by unfold wh; rw [hout k hk]; rfl) 4 (by omega)
  rw [e, cl, ch]
  refine Pure.start (N := 102) Try.func16 rfl rfl (Nat.le_of_ble_eq_true rfl) ?_
  refine AWp.seq ?_
  refine AWp.region ?_
  refine AList.c 3 rfl rfl rfl (OpJ.boxImm rfl rfl rfl) ?_
  refine AList.c 6 rfl rfl rfl (OpJ.allocOwn rfl zr35 rfl) ?_
  refine AList.c 7 rfl rfl rfl (OpJ.assign rfl rfl) ?_
  refine AList.nil ?_
  refine AWp.seq ?_
  refine AWp.seq ?_
  refine AWp.region ?_
  refine AList.c 18 rfl rfl rfl (OpJ.load (v := .p (pntV p)) rfl rfl ty24 rfl) ?_
  refine AList.c 19 rfl rfl rfl (OpJ.callP (rPaint_ok p hb hbd) rfl rfl rfl rfl rf20) ?_
  refine AList.c 20 rfl rfl rfl (OpJ.not_ rfl rfl) ?_
  refine AList.nil ?_
  refine AWp.cond _ rfl (fun hc0 => ?_) (fun hc0 => ?_)
  · skip
    exfalso
    rw [hT] at hc0
    cases hc0
  · skip
    refine AWp.skip ?_
    refine AWp.seq ?_
    refine AWp.region ?_
    refine AList.c 23 rfl rfl rfl (OpJ.load (v := .p (pntV p)) rfl rfl ty24 rfl) ?_
    refine AList.c 24 rfl rfl rfl (OpJ.move rfl rfl) ?_
    refine AList.c 25 rfl rfl rfl (OpJ.callP (dips_0 hb hbd ho h) rfl rfl rfl rfl rf37) ?_
    refine AList.c 22 rfl rfl rfl (OpJ.move rfl rfl) ?_
    refine AList.c 26 rfl rfl rfl (OpJ.extract rfl rfl rfl) ?_
    refine AList.c 27 rfl rfl rfl (OpJ.extract rfl rfl rfl) ?_
    refine AList.c 28 rfl rfl rfl (OpJ.extract rfl rfl rfl) ?_
    refine AList.c 8 rfl rfl rfl (OpJ.assign rfl rfl) ?_
    refine AList.c 9 rfl rfl rfl (OpJ.assign rfl rfl) ?_
    refine AList.c 10 rfl rfl rfl (OpJ.assign rfl rfl) ?_
    refine AList.nil ?_
    refine AWp.seq ?_
    refine AWp.seq ?_
    refine AWp.region ?_
    refine AList.c 29 rfl rfl rfl (OpJ.move rfl rfl) ?_
    refine AList.c 30 rfl rfl rfl (OpJ.neq rfl rfl rfl) ?_
    refine AList.nil ?_
    refine AWp.cond _ rfl (fun hc1 => ?_) (fun hc1 => ?_)
    · skip
      exfalso
      cases hc1
    · skip
      refine AWp.skip ?_
      refine AWp.seq ?_
      refine AWp.seq ?_
      refine AWp.region ?_
      refine AList.c 33 rfl rfl rfl (OpJ.move rfl rfl) ?_
      refine AList.c 34 rfl rfl rfl (OpJ.callP (in_ok _ _ _) rfl rfl rfl rfl rf38) ?_
      refine AList.c 35 rfl rfl rfl (OpJ.not_ rfl rfl) ?_
      refine AList.nil ?_
      refine AWp.cond _ rfl (fun hc2 => ?_) (fun hc2 => ?_)
      · skip
        exfalso
        rw [hh] at hc2
        cases hc2
      · skip
        refine AWp.skip ?_
        refine AWp.seq ?_
        refine AWp.region ?_
        refine AList.c 11 rfl rfl rfl (OpJ.assign rfl rfl) ?_
        refine AList.nil ?_
        refine AWp.seq ?_
        refine AWp.seq ?_
        refine AWp.region ?_
        refine AList.c 12 rfl rfl rfl (OpJ.assign rfl rfl) ?_
        refine AList.nil ?_
        refine AWp.block ?_
        refine AWp.to To.pad ?_
        refine AWp.loopHL [2, 3, 6, 8, 13, 14, 15, 16, 17, 60, 61, 62, 63, 64, 65, 66, 67, 68, 69, 70, 71, 72, 73, 74, 75, 76, 77, 78, 79, 80, 81, 82, 83, 84, 85, 86, 87, 88, 89, 90, 91, 92, 93, 94, 95, 96, 97, 98, 99, 100, 101] (fun g => [(12, .p (.int .i64 ((g : Nat) : Int))), (11, accV 1 (endD p o hour g).length)]) (fun g => [.cells [.p (.int .i64 0), .p (.int .i64 0)] 35, accB (((endD p o hour g).flatMap Dp.cells).map .p) 49 (endD p o hour g).length]) (fun g => g ≤ o.length) (fun g => o.length - g) 0 (Nat.zero_le _) (To.sub (Sub.chk (Sub.cons rfl (Sub.cons rfl (Sub.nil))))) (fun i hg => ?_)
        refine AWp.seq ?_
        refine AWp.seq ?_
        refine AWp.region ?_
        refine AList.c 37 rfl rfl rfl (OpJ.move rfl rfl) ?_
        refine AList.c 38 rfl rfl rfl (OpJ.move rfl rfl) ?_
        refine AList.c 39 rfl rfl rfl (OpJ.lenSlice rfl rfl sl25 rfl) ?_
        refine AList.c 40 rfl rfl rfl (OpJ.lss rfl rfl rfl) ?_
        refine AList.nil ?_
        refine AWp.cond _ rfl (fun hc3 => ?_) (fun hc3 => ?_)
        · skip
          have hk0 : i < o.length := by have h := of_decide_eq_true hc3; rw [mkD_len] at h; omega
          obtain ⟨kk, _, _, _, _, hr0, hr1⟩ := ws_in hp o hour (i := i) (fun j hj => hall j (by omega))
          have heli := endD_len p o hour i
          refine AWp.skip ?_
          refine AWp.seq ?_
          refine AWp.block ?_
          refine AWp.seq ?_
          refine AWp.regionDraw 10 mixed (by kernel_rfl) (by decide) ?_
          refine AQuiet.cons 43 rfl rfl rfl (OpJ.move rfl rfl) ?_
          refine AQuiet.cons 44 rfl rfl rfl (OpJ.move rfl rfl) ?_
          refine AQuiet.cons 45 rfl rfl rfl (OpJ.indexG (g := dpt (mkD p o o.length)) dpt_get rfl rfl rfl sl25 el25 rfl (fun _ => rfl) (by decide) (by rw [mkD_len]; exact hk0)) ?_
          refine AQuiet.cons 46 rfl rfl rfl (OpJ.fieldAddr rfl rfl fd49_1 rfl) ?_
          refine AQuiet.cons 47 rfl rfl rfl (OpJ.load (v := .p (.int .i64 (hrI p o i))) rfl rfl ty3 (congrArg (fun z => some (V.p (PV.int .i64 (Dp.h z)))) (mkD_at p o hk0))) ?_
          refine AQuiet.cons 48 rfl rfl rfl (OpJ.fieldAddr rfl rfl fd24_0 rfl) ?_
          refine AQuiet.cons 49 rfl rfl rfl (OpJ.load (v := .p (.int .i64 p.dip)) rfl rfl ty3 rfl) ?_
          refine AQuiet.cons 50 rfl rfl rfl (OpJ.add rfl rfl rfl (i64ok ?_)) ?_
          · omega
          refine AQuiet.cons 51 rfl rfl rfl (OpJ.move rfl rfl) ?_
          refine AQuiet.cons 52 rfl rfl rfl (OpJ.leq rfl rfl rfl) ?_
          refine AQuiet.nil ?_
          refine AList.nil ?_
          refine AWp.cond _ rfl (fun hc4 => ?_) (fun hc4 => ?_)
          · skip
            have e5 : endD p o hour (i + 1) = endD p o hour i ++ [⟨nt o i, hrI p o i⟩] := if_pos (of_decide_eq_true hc4)
            refine AWp.region ?_
            refine AList.c 53 rfl rfl rfl (OpJ.move rfl rfl) ?_
            refine AList.c 54 rfl rfl rfl (OpJ.move rfl rfl) ?_
            refine AList.c 55 rfl rfl rfl (OpJ.move rfl rfl) ?_
            refine AList.c 56 rfl rfl rfl (OpJ.indexG (g := dpt (mkD p o o.length)) dpt_get rfl rfl rfl sl25 el25 rfl (fun _ => rfl) (by decide) (by rw [mkD_len]; exact hk0)) ?_
            refine AList.c 57 rfl rfl rfl (OpJ.load (v := .p (.agg (Dp.cells ⟨nt o i, hrI p o i⟩))) rfl rfl ty49 (congrArg (fun z => some (V.p (PV.agg (Dp.cells z)))) (mkD_at p o hk0))) ?_
            refine AList.c 58 rfl rfl rfl (OpJ.buildImm rfl slz25 (by decide) rfl rfl rfl) ?_
            refine AList.c 59 rfl rfl rfl (OpJ.appendAcc rfl rfl rfl slz25 sl25 rfl ?_ rfl (by decide) rfl by49 (by decide) ?_) ?_
            · rw [List.length_map, flat_len (c := 2) (fun _ => rfl)]; rfl
            · omega
            refine AList.c 11 rfl rfl rfl (OpJ.assign rfl rfl) ?_
            refine AList.nil ?_
            refine AWp.region ?_
            refine AList.c 41 rfl rfl rfl (OpJ.move rfl rfl) ?_
            refine AList.c 42 rfl rfl rfl (OpJ.add rfl rfl rfl (i64ok ?_)) ?_
            · omega
            refine AList.c 12 rfl rfl rfl (OpJ.assign rfl rfl) ?_
            refine AList.nil ?_
            refine ⟨i + 1, ?_, ?_, ?_⟩
            · omega
            · omega
            rw [e5, List.length_append]
            refine To.done [0, 2] rfl (by repeat (first | exact Sub.nil | refine Sub.cons rfl ?_)) ?_
            show [Blk.cells _ _, Blk.row (renL _ (_ ++ _)) _] = _
            rw [renL_app, renL_pure, List.flatMap_append, List.map_append]
            rfl
          · skip
            have e5 : endD p o hour (i + 1) = endD p o hour i := if_neg (of_decide_eq_false hc4)
            refine AWp.skip ?_
            refine AWp.region ?_
            refine AList.c 41 rfl rfl rfl (OpJ.move rfl rfl) ?_
            refine AList.c 42 rfl rfl rfl (OpJ.add rfl rfl rfl (i64ok ?_)) ?_
            · omega
            refine AList.c 12 rfl rfl rfl (OpJ.assign rfl rfl) ?_
            refine AList.nil ?_
            refine ⟨i + 1, ?_, ?_, ?_⟩
            · omega
            · omega
            rw [e5]
            exact To.sub (Sub.cons rfl (Sub.cons rfl (by repeat (first | exact Sub.nil | refine Sub.cons rfl ?_))))
        · skip
          obtain rfl : i = o.length := by have h := of_decide_eq_false hc3; rw [mkD_len] at h; omega
          refine AWp.exit ?_
          refine AWp.seq ?_
          refine AWp.region ?_
          refine AList.c 13 rfl rfl rfl (OpJ.allocOwn rfl zr35 rfl) ?_
          refine AList.nil ?_
          refine AWp.seq ?_
          refine AWp.seq ?_
          refine AWp.region ?_
          refine AList.c 14 rfl rfl rfl (OpJ.assign rfl rfl) ?_
          refine AList.nil ?_
          refine AWp.block ?_
          refine AWp.loopHL [2, 3, 6, 11, 13, 101] (fun g => [(14, .p (.int .i64 ((g : Nat) : Int)))]) (fun g => [.cells [.p (.int .i64 0), .p (.int .i64 0)] 35, accB (((endD p o hour o.length).flatMap Dp.cells).map .p) 49 (endD p o hour o.length).length, .cells [.p (.int .i64 (cntB (wl (wsN p o hour o.length) hour) g)), .p (.int .i64 (cntB (wh (wsN p o hour o.length) hour) g))] 35]) (fun g => g ≤ p.bs.length) (fun g => p.bs.length - g) 0 (Nat.zero_le _) (To.sub (Sub.chk (Sub.cons rfl (Sub.nil)))) (fun i hg => ?_)
          refine AWp.seq ?_
          refine AWp.seq ?_
          refine AWp.region ?_
          refine AList.c 60 rfl rfl rfl (OpJ.move rfl rfl) ?_
          refine AList.c 61 rfl rfl rfl (OpJ.fieldAddr rfl rfl fd24_2 rfl) ?_
          refine AList.c 62 rfl rfl rfl (OpJ.load (v := .p (cotsV p.bs)) rfl rfl ty22 rfl) ?_
          refine AList.c 63 rfl rfl rfl (OpJ.lenSlice rfl rfl sl22 rfl) ?_
          refine AList.c 64 rfl rfl rfl (OpJ.lss rfl rfl rfl) ?_
          refine AList.nil ?_
          refine AWp.cond _ rfl (fun hc5 => ?_) (fun hc5 => ?_)
          · skip
            have hk1 : i < p.bs.length := by have h := of_decide_eq_true hc5; omega
            have hB := lastD_B hp hGE (i : Int) _ (Nat.le_refl _)
            have hes := end_seen hp hour ho hall i
            have hw1 := cntB_le (wl (wsN p o hour o.length) hour) i
            have hw2 := cntB_le (wh (wsN p o hour o.length) hour) i
            refine AWp.skip ?_
            refine AWp.seq ?_
            refine AWp.block ?_
            refine AWp.seq ?_
            refine AWp.region ?_
            refine AList.c 68 rfl rfl rfl (OpJ.load (v := .p (pntV p)) rfl rfl ty24 rfl) ?_
            refine AList.c 69 rfl rfl rfl (OpJ.move rfl rfl) ?_
            refine AList.c 70 rfl rfl rfl (OpJ.move rfl rfl) ?_
            refine AList.c 71 rfl rfl rfl (OpJ.callBt 3 (last_A hp hGE (by omega) (i : Int)) rfl rfl rfl rfl (mapO.c brwP (mapO.c (brwAcc rfl) (mapO.c brwP mapO.n))) rf39) ?_
            refine AList.c 67 rfl rfl rfl (OpJ.move rfl rfl) ?_
            refine AList.c 72 rfl rfl rfl (OpJ.extract rfl rfl rfl) ?_
            refine AList.c 73 rfl rfl rfl (OpJ.extract rfl rfl rfl) ?_
            refine AList.c 74 rfl rfl rfl (OpJ.extract rfl rfl rfl) ?_
            refine AList.c 16 rfl rfl rfl (OpJ.allocOwn rfl zr35 rfl) ?_
            refine AList.c 15 rfl rfl rfl (OpJ.assign rfl rfl) ?_
            refine AList.c0 rfl rfl (OpJ.store (H' := [.cells [.p (.int .i64 0), .p (.int .i64 0)] 35, accB (((endD p o hour o.length).flatMap Dp.cells).map .p) 49 (endD p o hour o.length).length, .cells [.p (.int .i64 (cntB (wl (wsN p o hour o.length) hour) i)), .p (.int .i64 (cntB (wh (wsN p o hour o.length) hour) i))] 35, .cells ((lastD p (endD p o hour o.length) (i : Int) (endD p o hour o.length).length).2.1.cells.map .p) 35]) rfl rfl rfl rfl rfl ty35 rfl rfl) ?_
            refine AList.c 17 rfl rfl rfl (OpJ.assign rfl rfl) ?_
            refine AList.nil ?_
            refine AWp.seq ?_
            refine AWp.seq ?_
            refine AWp.freeze 3 rfl rfl ?_
            refine AWp.norm [0, 1, 2] [(2, _), (3, _), (6, _), (11, accV 1 (endD p o hour o.length).length), (13, _), (14, _), (15, _), (16, _), (17, _)] [.cells [.p (.int .i64 0), .p (.int .i64 0)] 35, accB (((endD p o hour o.length).flatMap Dp.cells).map .p) 49 (endD p o hour o.length).length, .cells [.p (.int .i64 (cntB (wl (wsN p o hour o.length) hour) i)), .p (.int .i64 (cntB (wh (wsN p o hour o.length) hour) i))] 35] rfl (Sub.cons rfl (Sub.cons rfl (Sub.cons rfl (Sub.cons (by rw [lk_renT, lk_frzT]; show some (renV _ (frzV _ _ (accV 1 _))) = _; rw [frz_acc, accV_ren (σ := pl [0, 1, 2]) (i := 1) (j := 1) rfl]) (by repeat (first | exact Sub.nil | refine Sub.cons rfl ?_)))))) (by show [Blk.cells _ _, renB _ (accB (List.map V.p _) _ _), Blk.cells _ _] = _; rw [accB_ren]; rfl) ?_
            refine AWp.region ?_
            refine AList.c 75 rfl rfl rfl (OpJ.move rfl rfl) ?_
            refine AList.c 76 rfl rfl rfl (OpJ.move rfl rfl) ?_
            refine AList.g 77 76 rfl rfl rfl rfl rfl rfl rfl [(2, _)] (fun h => And.intro (.inl rfl) (trivial)) (fun h => (OpJ.move rfl rfl)) ?_
            refine AList.g 78 76 rfl rfl rfl rfl rfl rfl rfl [(15, _)] (fun h => And.intro (.inl rfl) (trivial)) (fun h => (OpJ.move rfl rfl)) ?_
            refine AList.g 79 76 rfl rfl rfl rfl rfl rfl rfl [(77, _), (78, _)] (fun h => And.intro (.inr ⟨_, rfl, h⟩) (And.intro (.inr ⟨_, rfl, h⟩) (trivial))) (fun h => (OpJ.sub_ rfl rfl rfl (i64ok (by omega)))) ?_
            refine AList.g 80 76 rfl rfl rfl rfl rfl rfl rfl [(16, _)] (fun h => And.intro (.inl rfl) (trivial)) (fun h => (OpJ.fieldAddr rfl rfl fd35_0 rfl)) ?_
            refine AList.g 81 76 rfl rfl rfl rfl rfl rfl rfl [(80, _)] (fun h => And.intro (.inr ⟨_, rfl, h⟩) (trivial)) (fun h => (OpJ.load (v := .p (.int .i64 (lastD p (endD p o hour o.length) (i : Int) (endD p o hour o.length).length).2.1.lo)) rfl rfl ty3 rfl)) ?_
            refine AList.g 82 76 rfl rfl rfl rfl rfl rfl rfl [(79, _), (81, _)] (fun h => And.intro (.inr ⟨_, rfl, h⟩) (And.intro (.inr ⟨_, rfl, h⟩) (trivial))) (fun h => (OpJ.lss rfl rfl rfl)) ?_
            refine AList.c 83 rfl rfl rfl (OpJ.and_ rfl rfl rfl ?_) ?_
            · first | (intro h; rw [h]; rfl) | (intro h; simp_all)
            refine AList.nil ?_
            refine AWp.cond _ rfl (fun hc6 => ?_) (fun hc6 => ?_)
            · skip
              have e6 : cntB (wl (wsN p o hour o.length) hour) (i + 1) = cntB (wl (wsN p o hour o.length) hour) i + 1 := if_pos (by rw [← hes.1]; exact hc6)
              refine AWp.region ?_
              refine AList.c 84 rfl rfl rfl (OpJ.fieldAddr rfl rfl fd35_0 rfl) ?_
              refine AList.c 85 rfl rfl rfl (OpJ.load (v := .p (.int .i64 (cntB (wl (wsN p o hour o.length) hour) i))) rfl rfl ty3 rfl) ?_
              refine AList.c 86 rfl rfl rfl (OpJ.add rfl rfl rfl (i64ok ?_)) ?_
              · omega
              refine AList.c 87 rfl rfl rfl (OpJ.fieldAddr rfl rfl fd35_0 rfl) ?_
              refine AList.c0 rfl rfl (OpJ.store rfl rfl rfl rfl rfl ty3 rfl rfl) ?_
              refine AList.nil ?_
              refine AWp.seq ?_
              refine AWp.region ?_
              refine AList.c 88 rfl rfl rfl (OpJ.move rfl rfl) ?_
              refine AList.c 89 rfl rfl rfl (OpJ.move rfl rfl) ?_
              refine AList.g 90 89 rfl rfl rfl rfl rfl rfl rfl [(2, _)] (fun h => And.intro (.inl rfl) (trivial)) (fun h => (OpJ.move rfl rfl)) ?_
              refine AList.g 91 89 rfl rfl rfl rfl rfl rfl rfl [(15, _)] (fun h => And.intro (.inl rfl) (trivial)) (fun h => (OpJ.move rfl rfl)) ?_
              refine AList.g 92 89 rfl rfl rfl rfl rfl rfl rfl [(90, _), (91, _)] (fun h => And.intro (.inr ⟨_, rfl, h⟩) (And.intro (.inr ⟨_, rfl, h⟩) (trivial))) (fun h => (OpJ.sub_ rfl rfl rfl (i64ok (by omega)))) ?_
              refine AList.g 93 89 rfl rfl rfl rfl rfl rfl rfl [(16, _)] (fun h => And.intro (.inl rfl) (trivial)) (fun h => (OpJ.fieldAddr rfl rfl fd35_1 rfl)) ?_
              refine AList.g 94 89 rfl rfl rfl rfl rfl rfl rfl [(93, _)] (fun h => And.intro (.inr ⟨_, rfl, h⟩) (trivial)) (fun h => (OpJ.load (v := .p (.int .i64 (lastD p (endD p o hour o.length) (i : Int) (endD p o hour o.length).length).2.1.hi)) rfl rfl ty3 rfl)) ?_
              refine AList.g 95 89 rfl rfl rfl rfl rfl rfl rfl [(92, _), (94, _)] (fun h => And.intro (.inr ⟨_, rfl, h⟩) (And.intro (.inr ⟨_, rfl, h⟩) (trivial))) (fun h => (OpJ.lss rfl rfl rfl)) ?_
              refine AList.c 96 rfl rfl rfl (OpJ.and_ rfl rfl rfl ?_) ?_
              · first | (intro h; rw [h]; rfl) | (intro h; simp_all)
              refine AList.nil ?_
              refine AWp.cond _ rfl (fun hc7 => ?_) (fun hc7 => ?_)
              · skip
                have e7 : cntB (wh (wsN p o hour o.length) hour) (i + 1) = cntB (wh (wsN p o hour o.length) hour) i + 1 := if_pos (by rw [← hes.2]; exact hc7)
                refine AWp.region ?_
                refine AList.c 97 rfl rfl rfl (OpJ.fieldAddr rfl rfl fd35_1 rfl) ?_
                refine AList.c 98 rfl rfl rfl (OpJ.load (v := .p (.int .i64 (cntB (wh (wsN p o hour o.length) hour) i))) rfl rfl ty3 rfl) ?_
                refine AList.c 99 rfl rfl rfl (OpJ.add rfl rfl rfl (i64ok ?_)) ?_
                · omega
                refine AList.c 100 rfl rfl rfl (OpJ.fieldAddr rfl rfl fd35_1 rfl) ?_
                refine AList.c0 rfl rfl (OpJ.store rfl rfl rfl rfl rfl ty3 rfl rfl) ?_
                refine AList.nil ?_
                refine AWp.region ?_
                refine AList.c 65 rfl rfl rfl (OpJ.move rfl rfl) ?_
                refine AList.c 66 rfl rfl rfl (OpJ.add rfl rfl rfl (i64ok ?_)) ?_
                · omega
                refine AList.c 14 rfl rfl rfl (OpJ.assign rfl rfl) ?_
                refine AList.nil ?_
                refine ⟨i + 1, ?_, ?_, ?_⟩
                · omega
                · omega
                rw [e6, e7]
                exact To.sub (Sub.cons rfl (by repeat (first | exact Sub.nil | refine Sub.cons rfl ?_)))
              · skip
                have e7 : cntB (wh (wsN p o hour o.length) hour) (i + 1) = cntB (wh (wsN p o hour o.length) hour) i := if_neg (by rw [← hes.2]; intro hq; rw [show (_ && _) = false from hc7] at hq; cases hq)
                refine AWp.skip ?_
                refine AWp.region ?_
                refine AList.c 65 rfl rfl rfl (OpJ.move rfl rfl) ?_
                refine AList.c 66 rfl rfl rfl (OpJ.add rfl rfl rfl (i64ok ?_)) ?_
                · omega
                refine AList.c 14 rfl rfl rfl (OpJ.assign rfl rfl) ?_
                refine AList.nil ?_
                refine ⟨i + 1, ?_, ?_, ?_⟩
                · omega
                · omega
                rw [e6, e7]
                exact To.sub (Sub.cons rfl (by repeat (first | exact Sub.nil | refine Sub.cons rfl ?_)))
            · skip
              have e6 : cntB (wl (wsN p o hour o.length) hour) (i + 1) = cntB (wl (wsN p o hour o.length) hour) i := if_neg (by rw [← hes.1]; intro hq; rw [show (_ && _) = false from hc6] at hq; cases hq)
              refine AWp.skip ?_
              refine AWp.seq ?_
              refine AWp.region ?_
              refine AList.c 88 rfl rfl rfl (OpJ.move rfl rfl) ?_
              refine AList.c 89 rfl rfl rfl (OpJ.move rfl rfl) ?_
              refine AList.g 90 89 rfl rfl rfl rfl rfl rfl rfl [(2, _)] (fun h => And.intro (.inl rfl) (trivial)) (fun h => (OpJ.move rfl rfl)) ?_
              refine AList.g 91 89 rfl rfl rfl rfl rfl rfl rfl [(15, _)] (fun h => And.intro (.inl rfl) (trivial)) (fun h => (OpJ.move rfl rfl)) ?_
              refine AList.g 92 89 rfl rfl rfl rfl rfl rfl rfl [(90, _), (91, _)] (fun h => And.intro (.inr ⟨_, rfl, h⟩) (And.intro (.inr ⟨_, rfl, h⟩) (trivial))) (fun h => (OpJ.sub_ rfl rfl rfl (i64ok (by omega)))) ?_
              refine AList.g 93 89 rfl rfl rfl rfl rfl rfl rfl [(16, _)] (fun h => And.intro (.inl rfl) (trivial)) (fun h => (OpJ.fieldAddr rfl rfl fd35_1 rfl)) ?_
              refine AList.g 94 89 rfl rfl rfl rfl rfl rfl rfl [(93, _)] (fun h => And.intro (.inr ⟨_, rfl, h⟩) (trivial)) (fun h => (OpJ.load (v := .p (.int .i64 (lastD p (endD p o hour o.length) (i : Int) (endD p o hour o.length).length).2.1.hi)) rfl rfl ty3 rfl)) ?_
              refine AList.g 95 89 rfl rfl rfl rfl rfl rfl rfl [(92, _), (94, _)] (fun h => And.intro (.inr ⟨_, rfl, h⟩) (And.intro (.inr ⟨_, rfl, h⟩) (trivial))) (fun h => (OpJ.lss rfl rfl rfl)) ?_
              refine AList.c 96 rfl rfl rfl (OpJ.and_ rfl rfl rfl ?_) ?_
              · first | (intro h; rw [h]; rfl) | (intro h; simp_all)
              refine AList.nil ?_
              refine AWp.cond _ rfl (fun hc7 => ?_) (fun hc7 => ?_)
              · skip
                have e7 : cntB (wh (wsN p o hour o.length) hour) (i + 1) = cntB (wh (wsN p o hour o.length) hour) i + 1 := if_pos (by rw [← hes.2]; exact hc7)
                refine AWp.region ?_
                refine AList.c 97 rfl rfl rfl (OpJ.fieldAddr rfl rfl fd35_1 rfl) ?_
                refine AList.c 98 rfl rfl rfl (OpJ.load (v := .p (.int .i64 (cntB (wh (wsN p o hour o.length) hour) i))) rfl rfl ty3 rfl) ?_
                refine AList.c 99 rfl rfl rfl (OpJ.add rfl rfl rfl (i64ok ?_)) ?_
                · omega
                refine AList.c 100 rfl rfl rfl (OpJ.fieldAddr rfl rfl fd35_1 rfl) ?_
                refine AList.c0 rfl rfl (OpJ.store rfl rfl rfl rfl rfl ty3 rfl rfl) ?_
                refine AList.nil ?_
                refine AWp.region ?_
                refine AList.c 65 rfl rfl rfl (OpJ.move rfl rfl) ?_
                refine AList.c 66 rfl rfl rfl (OpJ.add rfl rfl rfl (i64ok ?_)) ?_
                · omega
                refine AList.c 14 rfl rfl rfl (OpJ.assign rfl rfl) ?_
                refine AList.nil ?_
                refine ⟨i + 1, ?_, ?_, ?_⟩
                · omega
                · omega
                rw [e6, e7]
                exact To.sub (Sub.cons rfl (by repeat (first | exact Sub.nil | refine Sub.cons rfl ?_)))
              · skip
                have e7 : cntB (wh (wsN p o hour o.length) hour) (i + 1) = cntB (wh (wsN p o hour o.length) hour) i := if_neg (by rw [← hes.2]; intro hq; rw [show (_ && _) = false from hc7] at hq; cases hq)
                refine AWp.skip ?_
                refine AWp.region ?_
                refine AList.c 65 rfl rfl rfl (OpJ.move rfl rfl) ?_
                refine AList.c 66 rfl rfl rfl (OpJ.add rfl rfl rfl (i64ok ?_)) ?_
                · omega
                refine AList.c 14 rfl rfl rfl (OpJ.assign rfl rfl) ?_
                refine AList.nil ?_
                refine ⟨i + 1, ?_, ?_, ?_⟩
                · omega
                · omega
                rw [e6, e7]
                exact To.sub (Sub.cons rfl (by repeat (first | exact Sub.nil | refine Sub.cons rfl ?_)))
          · skip
            obtain rfl : i = p.bs.length := by have h := of_decide_eq_false hc5; omega
            refine AWp.exit ?_
            refine AWp.seq ?_
            refine AWp.region ?_
            refine AList.c 101 rfl rfl rfl (OpJ.load (v := .p (.agg [.int .i64 (cntB (wl (wsN p o hour o.length) hour) p.bs.length), .int .i64 (cntB (wh (wsN p o hour o.length) hour) p.bs.length)])) rfl rfl ty35 rfl) ?_
            refine AList.c0 rfl rfl (OpJ.store (H' := [.cells [.p (.int .i64 (cntB (wl (wsN p o hour o.length) hour) p.bs.length)), .p (.int .i64 (cntB (wh (wsN p o hour o.length) hour) p.bs.length))] 35, accB (((endD p o hour o.length).flatMap Dp.cells).map .p) 49 (endD p o hour o.length).length, .cells [.p (.int .i64 (cntB (wl (wsN p o hour o.length) hour) p.bs.length)), .p (.int .i64 (cntB (wh (wsN p o hour o.length) hour) p.bs.length))] 35]) rfl rfl rfl rfl rfl ty35 rfl rfl) ?_
            refine AList.c 7 rfl rfl rfl (OpJ.assign rfl rfl) ?_
            refine AList.nil ?_
            refine AWp.ret ?_
            exact Fin.manyE (xs := [.agg [.int .i64 (cntB (wl (wsN p o hour o.length) hour) p.bs.length), .int .i64 (cntB (wh (wsN p o hour o.length) hour) p.bs.length)], .int .i64 0]) rfl (⟨_, _, rfl, ⟨_, _, _, rfl, ty35, rfl⟩, ⟨_, _, rfl, rfl, rfl⟩⟩) rfl rfl
end Go.Proofs.Ytibgdkaipleajaa
end

section
set_option linter.unusedVariables false
set_option maxRecDepth 100000
set_option maxHeartbeats 4000000
set_option linter.unusedSimpArgs false
namespace Go.Proofs.Ytibgdkaipleajaa
open Go.AF
theorem rWet_ok (p : Pnt) (o : List Int) (hour : Int) (hb : p.bs.length ≤ 8) (hbd : ∀ b ∈ p.bs, b.dry.length ≤ 14) (ho : o.length ≤ 1000) : Pure Try.prog 16 [pntV p, intsV o, .int .i64 hour] (wetV (wetR p o hour)) := by
  cases hT : pntB p with
  | false => exact rWet_A p o hour hb hbd hT
  | true =>
    by_cases h : (timesR p o).2.2 = 0
    · cases hh : inB hour 0 1048576 with
      | false => exact rWet_R p o hour hb hbd h ho hh
      | true => exact rWet_O p o hour hb hbd h ho hh
    · exact rWet_E p o hour hb hbd hT h ho
end Go.Proofs.Ytibgdkaipleajaa
end
