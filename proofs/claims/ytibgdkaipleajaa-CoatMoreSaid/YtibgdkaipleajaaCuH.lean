/-
  When all is done; all orders; the best one of them, as the document finds it.
  The best of all orders, as the document finds it.
-/
import Derived.Test.YtibgdkaipleajaaCuF2
import Derived.Test.YtibgdkaipleajaaCuG
import Derived.Test.YtibgdkaipleajaaCuP2
import Derived.Test.YtibgdkaipleajaaAgE
section
set_option linter.unusedVariables false
set_option maxRecDepth 100000
set_option maxHeartbeats 4000000
set_option linter.unusedSimpArgs false
namespace Go.Proofs.Ytibgdkaipleajaa
open Go.AF
theorem rDone_ok (p : Pnt) (hp : Ok p) (l : List Dp) (hG : Good p l) (hl : l.length ≤ 1000) : Pure Try.prog 24 [pntV p, dpsV l] (.int .i64 (doneD p l p.bs.length)) := by
  have hn4 := hp.n
  refine Pure.start (N := 33) Try.func24 rfl rfl (Nat.le_of_ble_eq_true rfl) ?_
  refine AWp.seq ?_
  refine AWp.region ?_
  refine AList.c 2 rfl rfl rfl (OpJ.boxImm rfl rfl rfl) ?_
  refine AList.c 4 rfl rfl rfl (OpJ.assign rfl rfl) ?_
  refine AList.nil ?_
  refine AWp.seq ?_
  refine AWp.region ?_
  refine AList.c 5 rfl rfl rfl (OpJ.assign rfl rfl) ?_
  refine AList.nil ?_
  refine AWp.seq ?_
  refine AWp.seq ?_
  refine AWp.region ?_
  refine AList.c 6 rfl rfl rfl (OpJ.assign rfl rfl) ?_
  refine AList.nil ?_
  refine AWp.block ?_
  refine AWp.loopKL [1, 2, 32] (fun g => [(6, .p (.int .i64 ((g : Nat) : Int))), (5, .p (.int .i64 (doneD p l g)))]) (fun g => g ≤ p.bs.length) (fun g => p.bs.length - g) 0 (Nat.zero_le _) (Sub.cons rfl (Sub.cons rfl (Sub.nil))) (fun i hg => ?_)
  refine AWp.seq ?_
  refine AWp.seq ?_
  refine AWp.region ?_
  refine AList.c 10 rfl rfl rfl (OpJ.move rfl rfl) ?_
  refine AList.c 11 rfl rfl rfl (OpJ.fieldAddr rfl rfl fd24_2 rfl) ?_
  refine AList.c 12 rfl rfl rfl (OpJ.load (v := .p (cotsV p.bs)) rfl rfl ty22 rfl) ?_
  refine AList.c 13 rfl rfl rfl (OpJ.lenSlice rfl rfl sl22 rfl) ?_
  refine AList.c 14 rfl rfl rfl (OpJ.lss rfl rfl rfl) ?_
  refine AList.nil ?_
  refine AWp.cond _ rfl (fun hc0 => ?_) (fun hc0 => ?_)
  · skip
    have hk0 : i < p.bs.length := by have h := of_decide_eq_true hc0; omega
    have hB := lastD_B hp hG (i : Int) l.length (Nat.le_refl _)
    have hcl := doneD_B hp hG i
    refine AWp.skip ?_
    refine AWp.seq ?_
    refine AWp.block ?_
    refine AWp.seq ?_
    refine AWp.region ?_
    refine AList.c 18 rfl rfl rfl (OpJ.load (v := .p (pntV p)) rfl rfl ty24 rfl) ?_
    refine AList.c 19 rfl rfl rfl (OpJ.move rfl rfl) ?_
    refine AList.c 20 rfl rfl rfl (OpJ.move rfl rfl) ?_
    refine AList.c 21 rfl rfl rfl (OpJ.callP (last_ok p hp l hG hl (i : Int)) rfl rfl rfl rfl rf39) ?_
    refine AList.c 17 rfl rfl rfl (OpJ.move rfl rfl) ?_
    refine AList.c 22 rfl rfl rfl (OpJ.extract rfl rfl rfl) ?_
    refine AList.c 23 rfl rfl rfl (OpJ.extract rfl rfl rfl) ?_
    refine AList.c 24 rfl rfl rfl (OpJ.extract rfl rfl rfl) ?_
    refine AList.c 8 rfl rfl rfl (OpJ.allocOwn rfl zr35 rfl) ?_
    refine AList.c 7 rfl rfl rfl (OpJ.assign rfl rfl) ?_
    refine AList.c0 rfl rfl (OpJ.store (H' := [.cells ((lastD p l (i : Int) l.length).2.1.cells.map .p) 35]) rfl rfl rfl rfl rfl ty35 rfl rfl) ?_
    refine AList.c 9 rfl rfl rfl (OpJ.assign rfl rfl) ?_
    refine AList.nil ?_
    refine AWp.seq ?_
    refine AWp.freeze 0 rfl rfl ?_
    refine AWp.norm [] [(1, _), (2, _), (5, _), (6, _), (7, _), (8, _), (9, _)] [] rfl (by repeat (first | exact Sub.nil | refine Sub.cons rfl ?_)) rfl ?_
    refine AWp.region ?_
    refine AList.c 25 rfl rfl rfl (OpJ.move rfl rfl) ?_
    refine AList.nil ?_
    refine AWp.cond _ rfl (fun hc1 => ?_) (fun hc1 => ?_)
    · skip
      have e : doneD p l (i + 1) = max (doneD p l i) ((lastD p l (i : Int) l.length).1 + (lastD p l (i : Int) l.length).2.1.hi) := if_pos hc1
      refine AWp.region ?_
      refine AList.c 26 rfl rfl rfl (OpJ.move rfl rfl) ?_
      refine AList.c 27 rfl rfl rfl (OpJ.move rfl rfl) ?_
      refine AList.c 28 rfl rfl rfl (OpJ.fieldAddr rfl rfl fd35_1 rfl) ?_
      refine AList.c 29 rfl rfl rfl (OpJ.load (v := .p (.int .i64 (lastD p l (i : Int) l.length).2.1.hi)) rfl rfl ty3 rfl) ?_
      refine AList.c 30 rfl rfl rfl (OpJ.add rfl rfl rfl (i64ok ?_)) ?_
      · omega
      refine AList.c 31 rfl rfl rfl (OpJ.max2 rfl rfl rfl) ?_
      refine AList.c 5 rfl rfl rfl (OpJ.assign rfl rfl) ?_
      refine AList.nil ?_
      refine AWp.region ?_
      refine AList.c 15 rfl rfl rfl (OpJ.move rfl rfl) ?_
      refine AList.c 16 rfl rfl rfl (OpJ.add rfl rfl rfl (i64ok ?_)) ?_
      · omega
      refine AList.c 6 rfl rfl rfl (OpJ.assign rfl rfl) ?_
      refine AList.nil ?_
      refine ⟨i + 1, ?_, ?_, ?_⟩
      · omega
      · omega
      rw [e]
      exact To.sub (Sub.cons rfl (Sub.cons rfl (by repeat (first | exact Sub.nil | refine Sub.cons rfl ?_))))
    · skip
      have e : doneD p l (i + 1) = doneD p l i := if_neg (by rw [show (lastD p l (i : Int) l.length).2.2 = false from hc1]; decide)
      refine AWp.skip ?_
      refine AWp.region ?_
      refine AList.c 15 rfl rfl rfl (OpJ.move rfl rfl) ?_
      refine AList.c 16 rfl rfl rfl (OpJ.add rfl rfl rfl (i64ok ?_)) ?_
      · omega
      refine AList.c 6 rfl rfl rfl (OpJ.assign rfl rfl) ?_
      refine AList.nil ?_
      refine ⟨i + 1, ?_, ?_, ?_⟩
      · omega
      · omega
      rw [e]
      exact To.sub (Sub.cons rfl (Sub.cons rfl (by repeat (first | exact Sub.nil | refine Sub.cons rfl ?_))))
  · skip
    obtain rfl : i = p.bs.length := by have h := of_decide_eq_false hc0; omega
    refine AWp.exit ?_
    refine AWp.seq ?_
    refine AWp.region ?_
    refine AList.c 32 rfl rfl rfl (OpJ.move rfl rfl) ?_
    refine AList.c 4 rfl rfl rfl (OpJ.assign rfl rfl) ?_
    refine AList.nil ?_
    refine AWp.ret ?_
    exact Fin.oneE rfl rfl rfl
theorem count_A (l : List Int) (hl : l.length ≤ bigN) (b : Int) : Pure Try.prog 57 [accP (l.flatMap i1) l.length, .int .i64 b] (.int .i64 ((countI l b l.length : Nat) : Int)) :=
  Pure.acc [] (fun h => by rw [List.eq_nil_of_length_eq_zero h]; rfl) (count_ok l b hl)
theorem ints_flat (l : List Int) : (l.flatMap i1).length = l.length := by rw [flat_len (c := 1) (fun _ => rfl)]; omega
def OrdOk (p : Pnt) (f : Nat) (l : List Int) : Prop := ∀ L : List (List Int), L.length + 4 ^ f ≤ 5000 → ACalls Try.prog 43 [.p (pntV p), .p (accP (l.flatMap i1) l.length), accV 0 L.length] [accB ((L.flatMap oV).map .p) 26 L.length] fun v H' => v = accV 1 (L ++ ordF p f l).length ∧ H' = [.dead, accB (((L ++ ordF p f l).flatMap oV).map .p) 26 (L ++ ordF p f l).length]
theorem snocP (l : List Int) (k : Int) : accP ((l ++ [k]).flatMap i1) (l ++ [k]).length = .is (l.flatMap i1 ++ [.int .i64 k]) (0 + l.length + 1) := by
  rw [List.flatMap_append, List.length_append, accP_pos (by show 0 < l.length + 1; omega), Nat.zero_add]; rfl
theorem ord_step (p : Pnt) (hp : Ok p) (hb : p.bs.length ≤ 8) (hbd : ∀ b ∈ p.bs, b.dry.length ≤ 14) (f : Nat) (l : List Int) (hlen : l.length + f = coats p) (IH : ∀ g, f = g + 1 → ∀ b : Nat, OrdOk p g (l ++ [(b : Int)])) : OrdOk p f l := by
  intro L hL
  have hn4 := hp.n
  have hp9 := hp.all
  refine ACalls.start (N := 45) Try.func43 rfl rfl (Nat.le_of_ble_eq_true rfl) ?_
  refine AWp.seq ?_
  refine AWp.region ?_
  refine AList.c 3 rfl rfl rfl (OpJ.boxImm rfl rfl rfl) ?_
  refine AList.c 6 rfl rfl rfl (OpJ.assign rfl rfl) ?_
  refine AList.nil ?_
  refine AWp.seq ?_
  refine AWp.seq ?_
  refine AWp.region ?_
  refine AList.c 8 rfl rfl rfl (OpJ.move rfl rfl) ?_
  refine AList.c 9 rfl rfl rfl (OpJ.lenSlice rfl rfl sl26 (alen_accP _ _)) ?_
  refine AList.c 10 rfl rfl rfl (OpJ.load (v := .p (pntV p)) rfl rfl ty24 rfl) ?_
  refine AList.c 11 rfl rfl rfl (OpJ.callP (all_ok p (big14 (by omega)) (sums_ok hb hbd)) rfl rfl rfl rfl rf35) ?_
  refine AList.c 12 rfl rfl rfl (OpJ.eql rfl rfl rfl) ?_
  refine AList.nil ?_
  refine AWp.cond _ rfl (fun hc0 => ?_) (fun hc0 => ?_)
  · skip
    obtain rfl : f = 0 := by have h := of_decide_eq_true hc0; omega
    have hl0 : 0 < l.length := by have h1 := coats_pos hp; omega
    have eA : accP (l.flatMap i1) l.length = intsV l := accP_pos hl0
    rw [eA]
    refine AWp.seq ?_
    refine AWp.region ?_
    refine AList.c 13 rfl rfl rfl (OpJ.move rfl rfl) ?_
    refine AList.c 14 rfl rfl rfl (OpJ.move rfl rfl) ?_
    refine AList.c 15 rfl rfl rfl (OpJ.buildImm rfl slz87 (by decide) rfl rfl rfl) ?_
    refine AList.c 16 rfl rfl rfl (OpJ.appendAcc rfl rfl rfl slz87 sl87 rfl ?_ rfl (by decide) rfl by26 (by decide) ?_) ?_
    · rw [List.length_map, flat_len (c := 1) (fun _ => rfl)]; rfl
    · (show (2 * (L.length + 1) + 192) * 24 ≤ 281474976710656; omega)
    refine AList.c 6 rfl rfl rfl (OpJ.assign rfl rfl) ?_
    refine AList.nil ?_
    refine AWp.ret ?_
    exact ⟨.inr rfl, _, resV.one rfl rfl, by rw [List.length_append]; rfl, by rw [List.length_append, List.flatMap_append, List.map_append]; rfl⟩
  · skip
    obtain ⟨f, rfl⟩ : ∃ g, f = g + 1 := ⟨f - 1, by have h := of_decide_eq_false hc0; omega⟩
    refine AWp.skip ?_
    refine AWp.seq ?_
    refine AWp.seq ?_
    refine AWp.to (To.mvAcc 2 0 L.length rfl rfl) ?_
    refine AWp.region ?_
    refine AList.c 7 rfl rfl rfl (OpJ.assign rfl rfl) ?_
    refine AList.nil ?_
    refine AWp.block ?_
    refine AWp.loopHL [1, 3, 44] (fun g => [(7, .p (.int .i64 ((g : Nat) : Int))), (2, accV 1 (accL p f l L g).length)]) (fun g => [.dead, accB (((accL p f l L g).flatMap oV).map .p) 26 (accL p f l L g).length]) (fun g => g ≤ p.bs.length) (fun g => p.bs.length - g) 0 (Nat.zero_le _) (To.sub (Sub.chk (Sub.cons rfl (Sub.cons rfl (Sub.nil))))) (fun k hg => ?_)
    refine AWp.seq ?_
    refine AWp.seq ?_
    refine AWp.region ?_
    refine AList.c 17 rfl rfl rfl (OpJ.move rfl rfl) ?_
    refine AList.c 18 rfl rfl rfl (OpJ.fieldAddr rfl rfl fd24_2 rfl) ?_
    refine AList.c 19 rfl rfl rfl (OpJ.load (v := .p (cotsV p.bs)) rfl rfl ty22 rfl) ?_
    refine AList.c 20 rfl rfl rfl (OpJ.lenSlice rfl rfl sl22 rfl) ?_
    refine AList.c 21 rfl rfl rfl (OpJ.lss rfl rfl rfl) ?_
    refine AList.nil ?_
    refine AWp.cond _ rfl (fun hc1 => ?_) (fun hc1 => ?_)
    · skip
      have hk : k < p.bs.length := by have h := of_decide_eq_true hc1; omega
      refine AWp.skip ?_
      refine AWp.seq ?_
      refine AWp.block ?_
      refine AWp.seq ?_
      refine AWp.regionDraw 11 mixed (by kernel_rfl) (by decide) ?_
      refine AQuiet.cons 24 rfl rfl rfl (OpJ.move rfl rfl) ?_
      refine AQuiet.cons 25 rfl rfl rfl (OpJ.move rfl rfl) ?_
      refine AQuiet.cons 26 rfl rfl rfl (OpJ.callP (count_A l (by unfold bigN; omega) (k : Int)) rfl rfl rfl rfl rf57) ?_
      refine AQuiet.cons 27 rfl rfl rfl (OpJ.fieldAddr rfl rfl fd24_2 rfl) ?_
      refine AQuiet.cons 28 rfl rfl rfl (OpJ.load (v := .p (cotsV p.bs)) rfl rfl ty22 rfl) ?_
      refine AQuiet.cons 29 rfl rfl rfl (OpJ.move rfl rfl) ?_
      refine AQuiet.cons 30 rfl rfl rfl (OpJ.indexG (g := cot p.bs) cot_get rfl rfl rfl sl22 el22 rfl (fun _ => rfl) (by decide) hk) ?_
      refine AQuiet.cons 31 rfl rfl rfl (OpJ.fieldAddr rfl rfl fd52_0 rfl) ?_
      refine AQuiet.cons 32 rfl rfl rfl (OpJ.load (v := .p (spnsV (cot p.bs k).dry)) rfl rfl ty50 rfl) ?_
      refine AQuiet.cons 33 rfl rfl rfl (OpJ.lenSlice rfl rfl sl50 rfl) ?_
      refine AQuiet.cons 34 rfl rfl rfl (OpJ.lss rfl rfl rfl) ?_
      refine AQuiet.nil ?_
      refine AList.nil ?_
      refine AWp.cond _ rfl (fun hc2 => ?_) (fun hc2 => ?_)
      · skip
        have e : accL p f l L (k + 1) = (accL p f l L k) ++ ordF p f (l ++ [(k : Int)]) := if_pos (by have h := of_decide_eq_true hc2; omega)
        have hal := accL_len (by omega) f l L k (p := p)
        have hrm := pow_room (f := f) (k := k) (by omega) hL hal
        refine AWp.regionDrawG 8 3 [2, 3, 4] [([], false), ([2], true), ([], false), ([3, 2], true), ([], false), ([], false), ([4, 3], true), ([], false)] mixed (by kernel_rfl) (by decide) (by kernel_rfl) rfl (by show [Blk.dead, renB _ (accB (List.map V.p _) _ _)] = _; rw [accB_ren]) ?_
        refine AQG.cons 35 rfl rfl rfl (fun _ => (OpJ.load (v := .p (pntV p)) rfl rfl ty24 rfl)) rfl ?_
        refine AQG.lay (v0 := .row 5 _) 36 2 rfl rfl rfl rfl rfl rfl rfl rfl (fun _ => (OpJ.buildOwn rfl slz26 (by decide) rfl rfl)) rfl rfl rfl ?_
        refine AQG.cons 37 rfl rfl rfl (fun _ => (OpJ.move rfl rfl)) rfl ?_
        refine AQG.turn (v0 := .row 5 _) 38 3 2 rfl rfl rfl rfl rfl rfl rfl rfl rfl rfl (fun _ => (OpJ.appendRow (i := 2) (len := 0) (cs := []) rfl rfl rfl slz26 sl26 rfl ?_ (asrc_accP (ints_flat l |>.trans (Nat.mul_one _).symm)) (oneI l) by3 (by decide) ?_)) rfl rfl (congrArg (fun z => Blk.row z 3) (renL_pure _ (l.flatMap i1))) ?_
        · rfl
        · show (2 * (0 + l.length) + 192) * 8 ≤ 281474976710656; omega
        refine AQG.cons 39 rfl rfl rfl (fun _ => (OpJ.move rfl rfl)) rfl ?_
        refine AQG.cons 40 rfl rfl rfl (fun _ => (OpJ.buildImm rfl slz26 (by decide) rfl rfl rfl)) rfl ?_
        refine AQG.turn (blk := .row (([] ++ (l.flatMap i1).map .p) ++ [.p (.int .i64 ((k : Nat) : Int))]) 3) (v0 := .row 5 _) 41 4 3 rfl rfl rfl rfl rfl rfl rfl rfl rfl rfl (fun _ => (OpJ.appendRow (i := 3) (len := 0 + l.length) (cs := [] ++ (l.flatMap i1).map .p) (ys := [.p (.int .i64 ((k : Nat) : Int))]) (n := 1) rfl rfl rfl slz26 sl26 rfl ?_ rfl rfl by3 (by decide) ?_)) rfl rfl (congrArg (fun z => Blk.row z 3) (renL_cat _ (l.flatMap i1) [.int .i64 ((k : Nat) : Int)])) ?_
        · rw [List.nil_append, List.length_map, ints_flat, Nat.zero_add]; exact (Nat.mul_one _).symm
        · show (2 * (0 + l.length + 1) + 192) * 8 ≤ 281474976710656; omega
        refine AQG.cons 42 rfl rfl rfl (fun _ => (OpJ.move rfl rfl)) (accV_ren rfl) ?_
        refine AQG.nil ?_
        show AList _ _ _ _ _ _ _ _ _
        refine AList.freeze 4 rfl (allP_cat (l.flatMap i1) [.int .i64 ((k : Nat) : Int)]) ?_
        refine AList.to (To.done [0, 1] (S := [(1, _), (3, _), (7, _), (35, _), (41, _), (42, accV 1 (accL p f l L k).length)]) (H2 := [.dead, accB (((accL p f l L k).flatMap oV).map .p) 26 (accL p f l L k).length]) rfl (Sub.cons rfl (Sub.cons rfl (Sub.cons rfl (Sub.cons rfl (Sub.cons rfl (Sub.cons (by rw [lk_renT, lk_frzT]; show some (renV _ (frzV _ _ (accV 1 _))) = _; rw [frz_accN rfl, accV_ren (σ := pl [0, 1]) (i := 1) (j := 1) rfl]) Sub.nil)))))) (by show [Blk.dead, renB _ (accB (List.map V.p _) _ _)] = _; rw [accB_ren])) ?_
        refine AList.callAcc 43 1 (a := [pntV p, _]) (b := []) (by have h := IH f rfl k (accL p f l L k) hrm; rw [snocP] at h; exact h) rfl (by rw [allP_map]; exact fun h => by cases h) (by rw [allP_map]; exact fun h => by cases h) rfl rfl rfl rfl rfl rfl rfl rf43 ?_
        refine AList.c 2 rfl rfl rfl (OpJ.assign rfl rfl) ?_
        refine AList.nil ?_
        refine AWp.region ?_
        refine AList.c 22 rfl rfl rfl (OpJ.move rfl rfl) ?_
        refine AList.c 23 rfl rfl rfl (OpJ.add rfl rfl rfl (i64ok ?_)) ?_
        · omega
        refine AList.c 7 rfl rfl rfl (OpJ.assign rfl rfl) ?_
        refine AList.nil ?_
        refine ⟨k + 1, ?_, ?_, ?_⟩
        · omega
        · omega
        rw [e]
        exact To.done [0, 2] rfl (Sub.cons rfl (Sub.cons (by show some (renV _ (accV 2 _)) = _; rw [accV_ren (σ := pl [0, 2]) (i := 2) (j := 1) rfl]) (by repeat (first | exact Sub.nil | refine Sub.cons rfl ?_)))) (by show [Blk.dead, renB _ (accB (List.map V.p _) _ _)] = _; rw [accB_ren])
      · skip
        have e : accL p f l L (k + 1) = (accL p f l L k) := if_neg (by have h := of_decide_eq_false hc2; omega)
        refine AWp.skip ?_
        refine AWp.region ?_
        refine AList.c 22 rfl rfl rfl (OpJ.move rfl rfl) ?_
        refine AList.c 23 rfl rfl rfl (OpJ.add rfl rfl rfl (i64ok ?_)) ?_
        · omega
        refine AList.c 7 rfl rfl rfl (OpJ.assign rfl rfl) ?_
        refine AList.nil ?_
        refine ⟨k + 1, ?_, ?_, ?_⟩
        · omega
        · omega
        rw [e]
        exact To.sub (Sub.cons rfl (Sub.cons rfl (by repeat (first | exact Sub.nil | refine Sub.cons rfl ?_))))
    · skip
      obtain rfl : k = p.bs.length := by have h := of_decide_eq_false hc1; omega
      refine AWp.exit ?_
      refine AWp.seq ?_
      refine AWp.region ?_
      refine AList.c 44 rfl rfl rfl (OpJ.move rfl rfl) ?_
      refine AList.c 6 rfl rfl rfl (OpJ.assign rfl rfl) ?_
      refine AList.nil ?_
      refine AWp.ret ?_
      exact ⟨.inr rfl, _, resV.one rfl rfl, by rw [accL_n], by rw [accL_n]⟩
end Go.Proofs.Ytibgdkaipleajaa
end

section
set_option linter.unusedVariables false
set_option maxRecDepth 100000
set_option maxHeartbeats 4000000
set_option linter.unusedSimpArgs false
namespace Go.Proofs.Ytibgdkaipleajaa
open Go.AF
theorem ord_all {p : Pnt} (hp : Ok p) (hb : p.bs.length ≤ 8) (hbd : ∀ b ∈ p.bs, b.dry.length ≤ 14) : ∀ (f : Nat) (l : List Int), l.length + f = coats p → OrdOk p f l
  | 0, l, h => ord_step p hp hb hbd 0 l h fun g hg => by cases hg
  | f + 1, l, h => ord_step p hp hb hbd (f + 1) l h fun g hg b => by
    cases hg
    exact ord_all hp hb hbd f _ (by rw [List.length_append]; show l.length + 1 + f = coats p; omega)
theorem orders_T {p : Pnt} (hp : Ok p) (hb : p.bs.length ≤ 8) (hbd : ∀ b ∈ p.bs, b.dry.length ≤ 14) (h6 : coats p ≤ 6) : ACalls Try.prog 43 [.p (pntV p), .p .nilSlice, .p .nilSlice] [.dead] fun v H' => v = accV 1 (ordF p (coats p) []).length ∧ H' = [.dead, accB (((ordF p (coats p) []).flatMap oV).map .p) 26 (ordF p (coats p) []).length] :=
  ord_all hp hb hbd (coats p) [] (Nat.zero_add _) [] (by
    have h1 : 4 ^ coats p ≤ 4 ^ 6 := Nat.pow_le_pow_right (by decide) h6
    show 0 + 4 ^ coats p ≤ 5000
    rw [Nat.zero_add]
    exact Nat.le_trans h1 (by decide))
theorem done_T {p : Pnt} (hT : pntB p = true) {o : List Int} (ho : o.length ≤ 1000) (h : (timesR p o).2.2 = 0) : Pure Try.prog 24 [pntV p, dxV p o] (.int .i64 (doneN (stN p o o.length))) := by
  obtain ⟨_, hall, _, _⟩ := times_0 h
  have hp := pnt_ok hT
  have hG := good_mk hp ho hall
  have h2 := rDone_ok p hp (mkD p o o.length) hG (by rw [mkD_len]; exact ho)
  rw [doneD_N (by have := hp.n; omega) hG, fS_mk hall] at h2
  unfold dxV
  rwa [if_pos h]
theorem dips_T {p : Pnt} (hb : p.bs.length ≤ 8) (hbd : ∀ b ∈ p.bs, b.dry.length ≤ 14) (hT : pntB p = true) {o : List Int} (ho : o.length ≤ 1000) : Pure Try.prog 37 [pntV p, intsV o] (.tuple [dxV p o, .int .i64 (timesR p o).2.1, .int .i64 (timesR p o).2.2]) := dips_ok p o hb hbd hT ho
theorem rBest_1 (p : Pnt) (hb : p.bs.length ≤ 8) (hbd : ∀ b ∈ p.bs, b.dry.length ≤ 14) (hT : pntB p = true) (h6 : coats p ≤ 6) : Pure Try.prog 19 [pntV p] (bestV (bestR p)) := by
  have hp := pnt_ok hT
  have hn4 := hp.n
  have hlen : (ordF p (coats p) []).length ≤ 4096 := Nat.le_trans (ordF_len (by omega) _ _) (Nat.pow_le_pow_right (n := 4) (by decide) h6)
  have hbst := refN_best hT
  refine Pure.start (N := 57) Try.func19 rfl rfl (Nat.le_of_ble_eq_true rfl) ?_
  refine AWp.seq ?_
  refine AWp.region ?_
  refine AList.c 1 rfl rfl rfl (OpJ.boxImm rfl rfl rfl) ?_
  refine AList.c 2 rfl rfl rfl (OpJ.assign rfl rfl) ?_
  refine AList.c 3 rfl rfl rfl (OpJ.assign rfl rfl) ?_
  refine AList.c 4 rfl rfl rfl (OpJ.assign rfl rfl) ?_
  refine AList.nil ?_
  refine AWp.seq ?_
  refine AWp.seq ?_
  refine AWp.region ?_
  refine AList.c 12 rfl rfl rfl (OpJ.load (v := .p (pntV p)) rfl rfl ty24 rfl) ?_
  refine AList.c 13 rfl rfl rfl (OpJ.callP (rPaint_ok p hb hbd) rfl rfl rfl rfl rf20) ?_
  refine AList.c 14 rfl rfl rfl (OpJ.not_ rfl rfl) ?_
  refine AList.nil ?_
  refine AWp.cond _ rfl (fun hc0 => ?_) (fun hc0 => ?_)
  · skip
    exfalso
    rw [hT] at hc0
    cases hc0
  · skip
    refine AWp.skip ?_
    refine AWp.seq ?_
    refine AWp.to To.pad ?_
    refine AWp.region ?_
    refine AList.c 15 rfl rfl rfl (OpJ.load (v := .p (pntV p)) rfl rfl ty24 rfl) ?_
    refine AList.callX 16 (orders_T hp hb hbd h6) rfl rfl rfl rfl rfl rfl rfl rf43 (fun v H2 hQ2 => ?_)
    obtain ⟨rfl, rfl⟩ := hQ2
    refine AList.c 5 rfl rfl rfl (OpJ.assign rfl rfl) ?_
    refine AList.nil ?_
    refine AWp.seq ?_
    refine AWp.to (To.accD 5 1 (ordF p (coats p) []).length (xs := (ordF p (coats p) []).flatMap oV) rfl rfl (fun h => by rw [List.eq_nil_of_length_eq_zero h]; rfl)) ?_
    refine AWp.norm [] [(1, _), (5, .p (ordsV (ordF p (coats p) [])))] [] rfl (by repeat (first | exact Sub.nil | refine Sub.cons rfl ?_)) rfl ?_
    refine AWp.region ?_
    refine AList.c 6 rfl rfl rfl (OpJ.assign rfl rfl) ?_
    refine AList.c 7 rfl rfl rfl (OpJ.assign rfl rfl) ?_
    refine AList.nil ?_
    refine AWp.seq ?_
    refine AWp.seq ?_
    refine AWp.region ?_
    refine AList.c 8 rfl rfl rfl (OpJ.assign rfl rfl) ?_
    refine AList.nil ?_
    refine AWp.block ?_
    refine AWp.loopKL [1, 5, 50, 51, 52, 53, 54, 55, 56] (fun g => [(8, .p (.int .i64 ((g : Nat) : Int))), (6, .p (.int .i64 (idxN p (ordF p (coats p) []) g))), (7, .p (.int .i64 (hrV (refN p (ordF p (coats p) []) g))))]) (fun g => g ≤ (ordF p (coats p) []).length) (fun g => (ordF p (coats p) []).length - g) 0 (Nat.zero_le _) (Sub.cons rfl (Sub.cons rfl (Sub.cons rfl (Sub.nil)))) (fun i hg => ?_)
    refine AWp.seq ?_
    refine AWp.seq ?_
    refine AWp.region ?_
    refine AList.c 17 rfl rfl rfl (OpJ.move rfl rfl) ?_
    refine AList.c 18 rfl rfl rfl (OpJ.move rfl rfl) ?_
    refine AList.c 19 rfl rfl rfl (OpJ.lenSlice rfl rfl sl87 rfl) ?_
    refine AList.c 20 rfl rfl rfl (OpJ.lss rfl rfl rfl) ?_
    refine AList.nil ?_
    refine AWp.cond _ rfl (fun hc1 => ?_) (fun hc1 => ?_)
    · skip
      have hk0 : i < (ordF p (coats p) []).length := by have h := of_decide_eq_true hc1; omega
      have ho9 : (lsI (ordF p (coats p) []) i).length ≤ 1000 := by have h1 := ord9 hp (lsI_mem hk0); omega
      refine AWp.skip ?_
      refine AWp.seq ?_
      refine AWp.block ?_
      refine AWp.seq ?_
      refine AWp.regionDraw 13 mixed (by kernel_rfl) (by decide) ?_
      refine AQuiet.cons 24 rfl rfl rfl (OpJ.load (v := .p (pntV p)) rfl rfl ty24 rfl) ?_
      refine AQuiet.cons 25 rfl rfl rfl (OpJ.move rfl rfl) ?_
      refine AQuiet.cons 26 rfl rfl rfl (OpJ.move rfl rfl) ?_
      refine AQuiet.cons 27 rfl rfl rfl (OpJ.indexG (g := lsI (ordF p (coats p) [])) lsI_get rfl rfl rfl sl87 el87 rfl (fun _ => rfl) (by decide) hk0) ?_
      refine AQuiet.cons 28 rfl rfl rfl (OpJ.load (v := .p (intsV (lsI (ordF p (coats p) []) i))) rfl rfl ty26 rfl) ?_
      refine AQuiet.cons 29 rfl rfl rfl (OpJ.callP (dips_T hb hbd hT (by have h1 := ord9 hp (lsI_mem hk0); omega)) rfl rfl rfl rfl rf37) ?_
      refine AQuiet.cons 23 rfl rfl rfl (OpJ.move rfl rfl) ?_
      refine AQuiet.cons 30 rfl rfl rfl (OpJ.extract rfl rfl rfl) ?_
      refine AQuiet.cons 31 rfl rfl rfl (OpJ.extract rfl rfl rfl) ?_
      refine AQuiet.cons 32 rfl rfl rfl (OpJ.extract rfl rfl rfl) ?_
      refine AQuiet.cons 9 rfl rfl rfl (OpJ.assign rfl rfl) ?_
      refine AQuiet.cons 10 rfl rfl rfl (OpJ.assign rfl rfl) ?_
      refine AQuiet.cons 11 rfl rfl rfl (OpJ.assign rfl rfl) ?_
      refine AQuiet.nil ?_
      refine AList.nil ?_
      refine AWp.seq ?_
      refine AWp.region ?_
      refine AList.c 33 rfl rfl rfl (OpJ.move rfl rfl) ?_
      refine AList.c 34 rfl rfl rfl (OpJ.eql rfl rfl rfl) ?_
      refine AList.c 35 rfl rfl rfl (OpJ.move rfl rfl) ?_
      refine AList.g 36 35 rfl rfl rfl rfl rfl rfl rfl [(6, _)] (fun h => And.intro (.inl rfl) (trivial)) (fun h => (OpJ.move rfl rfl)) ?_
      refine AList.g 37 35 rfl rfl rfl rfl rfl rfl rfl [(36, _)] (fun h => And.intro (.inr ⟨_, rfl, h⟩) (trivial)) (fun h => (OpJ.lss rfl rfl rfl)) ?_
      refine AList.g 38 35 rfl rfl rfl rfl rfl rfl rfl [(37, _)] (fun h => And.intro (.inr ⟨_, rfl, h⟩) (trivial)) (fun h => (OpJ.move rfl rfl)) ?_
      refine AList.g 39 38 rfl rfl rfl rfl rfl rfl rfl [(1, _)] (fun h => And.intro (.inl rfl) (trivial)) (fun h => (OpJ.load (v := .p (pntV p)) rfl rfl ty24 rfl)) ?_
      refine AList.g 40 38 rfl rfl rfl rfl rfl rfl rfl [(9, _)] (fun h => And.intro (.inl rfl) (trivial)) (fun h => (OpJ.move rfl rfl)) ?_
      refine AList.g 41 38 rfl rfl rfl rfl rfl rfl rfl [(39, _), (40, _)] (fun h => And.intro (.inr ⟨_, rfl, h⟩) (And.intro (.inr ⟨_, rfl, h⟩) (trivial))) (fun h => (OpJ.callP (done_T hT ho9 (by rcases Decidable.em ((timesR p (lsI (ordF p (coats p) []) i)).2.2 = 0) with e | e; exact e; exact absurd h (by simp [e]))) rfl rfl rfl rfl rf24)) ?_
      refine AList.g 42 38 rfl rfl rfl rfl rfl rfl rfl [(7, _)] (fun h => And.intro (.inl rfl) (trivial)) (fun h => (OpJ.move rfl rfl)) ?_
      refine AList.g 43 38 rfl rfl rfl rfl rfl rfl rfl [(41, _), (42, _)] (fun h => And.intro (.inr ⟨_, rfl, h⟩) (And.intro (.inr ⟨_, rfl, h⟩) (trivial))) (fun h => (OpJ.lss rfl rfl rfl)) ?_
      refine AList.g 44 35 rfl rfl rfl rfl rfl rfl rfl [(38, _), (43, _)] (fun h => And.intro (.inr ⟨_, rfl, h⟩) (And.intro (.inl rfl) (trivial))) (fun h => (OpJ.or_ rfl rfl rfl ?_)) ?_
      · first | (intro h; rw [h]; rfl) | (intro h; simp_all)
      refine AList.c 45 rfl rfl rfl (OpJ.and_ rfl rfl rfl ?_) ?_
      · first | (intro h; rw [h]; rfl) | (intro h; simp_all)
      refine AList.nil ?_
      refine AWp.cond _ rfl (fun hc2 => ?_) (fun hc2 => ?_)
      · skip
        have hN := idx_none p (ordF p (coats p) []) (i := i) (by omega)
        have him : impB p (refN p (ordF p (coats p) []) i) (lsI (ordF p (coats p) []) i) = true := by unfold impB; rw [hN]; exact hc2
        have ht : (timesR p (lsI (ordF p (coats p) []) i)).2.2 = 0 := by unfold impB at him; rw [Bool.and_eq_true] at him; exact of_decide_eq_true him.1
        have e1 : refN p (ordF p (coats p) []) (i + 1) = some ((lsI (ordF p (coats p) []) i), doneN (stN p (lsI (ordF p (coats p) []) i) (lsI (ordF p (coats p) []) i).length)) := refS_T him
        have e2 : idxN p (ordF p (coats p) []) (i + 1) = (i : Int) := if_pos him
        refine AWp.seq ?_
        refine AWp.region ?_
        refine AList.c 46 rfl rfl rfl (OpJ.move rfl rfl) ?_
        refine AList.c 6 rfl rfl rfl (OpJ.assign rfl rfl) ?_
        refine AList.nil ?_
        refine AWp.region ?_
        refine AList.c 47 rfl rfl rfl (OpJ.load (v := .p (pntV p)) rfl rfl ty24 rfl) ?_
        refine AList.c 48 rfl rfl rfl (OpJ.move rfl rfl) ?_
        refine AList.c 49 rfl rfl rfl (OpJ.callP (done_T hT ho9 ht) rfl rfl rfl rfl rf24) ?_
        refine AList.c 7 rfl rfl rfl (OpJ.assign rfl rfl) ?_
        refine AList.nil ?_
        refine AWp.region ?_
        refine AList.c 21 rfl rfl rfl (OpJ.move rfl rfl) ?_
        refine AList.c 22 rfl rfl rfl (OpJ.add rfl rfl rfl (i64ok ?_)) ?_
        · omega
        refine AList.c 8 rfl rfl rfl (OpJ.assign rfl rfl) ?_
        refine AList.nil ?_
        refine ⟨i + 1, ?_, ?_, ?_⟩
        · omega
        · omega
        rw [e1, e2]
        exact To.sub (Sub.cons rfl (Sub.cons rfl (Sub.cons rfl (by repeat (first | exact Sub.nil | refine Sub.cons rfl ?_)))))
      · skip
        have hN := idx_none p (ordF p (coats p) []) (i := i) (by omega)
        have him : impB p (refN p (ordF p (coats p) []) i) (lsI (ordF p (coats p) []) i) = false := by unfold impB; rw [hN]; exact hc2
        have e1 : refN p (ordF p (coats p) []) (i + 1) = refN p (ordF p (coats p) []) i := refS_F him
        have e2 : idxN p (ordF p (coats p) []) (i + 1) = idxN p (ordF p (coats p) []) i := if_neg (by rw [him]; decide)
        refine AWp.skip ?_
        refine AWp.region ?_
        refine AList.c 21 rfl rfl rfl (OpJ.move rfl rfl) ?_
        refine AList.c 22 rfl rfl rfl (OpJ.add rfl rfl rfl (i64ok ?_)) ?_
        · omega
        refine AList.c 8 rfl rfl rfl (OpJ.assign rfl rfl) ?_
        refine AList.nil ?_
        refine ⟨i + 1, ?_, ?_, ?_⟩
        · omega
        · omega
        rw [e1, e2]
        exact To.sub (Sub.cons rfl (Sub.cons rfl (Sub.cons rfl (by repeat (first | exact Sub.nil | refine Sub.cons rfl ?_)))))
    · skip
      obtain rfl : i = (ordF p (coats p) []).length := by have h := of_decide_eq_false hc1; omega
      refine AWp.exit ?_
      refine AWp.seq ?_
      refine AWp.seq ?_
      refine AWp.region ?_
      refine AList.c 50 rfl rfl rfl (OpJ.move rfl rfl) ?_
      refine AList.c 51 rfl rfl rfl (OpJ.lss rfl rfl rfl) ?_
      refine AList.nil ?_
      refine AWp.cond _ rfl (fun hc3 => ?_) (fun hc3 => ?_)
      · skip
        have hN := idx_none p (ordF p (coats p) []) (i := (ordF p (coats p) []).length) (Nat.le_refl _)
        have e : bestR p = (none, 4) := (if_neg (by rw [hT]; decide)).trans (if_pos (by rw [← hbst, hN]; exact hc3))
        rw [e]
        refine AWp.seq ?_
        refine AWp.region ?_
        refine AList.c 2 rfl rfl rfl (OpJ.assign rfl rfl) ?_
        refine AList.c 3 rfl rfl rfl (OpJ.assign rfl rfl) ?_
        refine AList.c 4 rfl rfl rfl (OpJ.assign rfl rfl) ?_
        refine AList.nil ?_
        refine AWp.ret ?_
        exact Fin.manyE (xs := [.nilSlice, .int .i64 0, .int .i64 4]) rfl (⟨_, _, rfl, rfl, ⟨_, _, rfl, rfl, ⟨_, _, rfl, rfl, rfl⟩⟩⟩) rfl rfl
      · skip
        have hN := idx_none p (ordF p (coats p) []) (i := (ordF p (coats p) []).length) (Nat.le_refl _)
        have e : bestR p = ((bstF p (coats p) shp0 [] none), 0) := (if_neg (by rw [hT]; decide)).trans (if_neg (by rw [← hbst, hN]; show ¬ decide _ = true; rw [show decide _ = false from hc3]; decide))
        rw [e, ← hbst]
        rcases idx_in p (ordF p (coats p) []) (ordF p (coats p) []).length (Nat.le_refl _) with ⟨h1, h2⟩ | ⟨k, hkl, hki, t, hkt⟩
        · exfalso
          have h3 := of_decide_eq_false hc3
          omega
        rw [hkt, hki]
        refine AWp.skip ?_
        refine AWp.seq ?_
        refine AWp.region ?_
        refine AList.c 52 rfl rfl rfl (OpJ.move rfl rfl) ?_
        refine AList.c 53 rfl rfl rfl (OpJ.move rfl rfl) ?_
        refine AList.c 54 rfl rfl rfl (OpJ.indexG (g := lsI (ordF p (coats p) [])) lsI_get rfl rfl rfl sl87 el87 rfl (fun _ => rfl) (by decide) hkl) ?_
        refine AList.c 55 rfl rfl rfl (OpJ.load (v := .p (intsV (lsI (ordF p (coats p) []) k))) rfl rfl ty26 rfl) ?_
        refine AList.c 56 rfl rfl rfl (OpJ.move rfl rfl) ?_
        refine AList.c 2 rfl rfl rfl (OpJ.assign rfl rfl) ?_
        refine AList.c 3 rfl rfl rfl (OpJ.assign rfl rfl) ?_
        refine AList.c 4 rfl rfl rfl (OpJ.assign rfl rfl) ?_
        refine AList.nil ?_
        refine AWp.ret ?_
        exact Fin.manyE (xs := [intsV (lsI (ordF p (coats p) []) k), .int .i64 t, .int .i64 0]) rfl (⟨_, _, rfl, rfl, ⟨_, _, rfl, rfl, ⟨_, _, rfl, rfl, rfl⟩⟩⟩) rfl rfl
theorem rBest_0 (p : Pnt) (hb : p.bs.length ≤ 8) (hbd : ∀ b ∈ p.bs, b.dry.length ≤ 14) (hT : pntB p = false) : Pure Try.prog 19 [pntV p] (bestV (bestR p)) := by
  have e : bestR p = (none, 1) := if_pos hT
  rw [e]
  refine Pure.start (N := 57) Try.func19 rfl rfl (Nat.le_of_ble_eq_true rfl) ?_
  refine AWp.seq ?_
  refine AWp.region ?_
  refine AList.c 1 rfl rfl rfl (OpJ.boxImm rfl rfl rfl) ?_
  refine AList.c 2 rfl rfl rfl (OpJ.assign rfl rfl) ?_
  refine AList.c 3 rfl rfl rfl (OpJ.assign rfl rfl) ?_
  refine AList.c 4 rfl rfl rfl (OpJ.assign rfl rfl) ?_
  refine AList.nil ?_
  refine AWp.seq ?_
  refine AWp.seq ?_
  refine AWp.region ?_
  refine AList.c 12 rfl rfl rfl (OpJ.load (v := .p (pntV p)) rfl rfl ty24 rfl) ?_
  refine AList.c 13 rfl rfl rfl (OpJ.callP (rPaint_ok p hb hbd) rfl rfl rfl rfl rf20) ?_
  refine AList.c 14 rfl rfl rfl (OpJ.not_ rfl rfl) ?_
  refine AList.nil ?_
  refine AWp.cond _ rfl (fun hc0 => ?_) (fun hc0 => ?_)
  · skip
    refine AWp.seq ?_
    refine AWp.region ?_
    refine AList.c 2 rfl rfl rfl (OpJ.assign rfl rfl) ?_
    refine AList.c 3 rfl rfl rfl (OpJ.assign rfl rfl) ?_
    refine AList.c 4 rfl rfl rfl (OpJ.assign rfl rfl) ?_
    refine AList.nil ?_
    refine AWp.ret ?_
    exact Fin.manyE (xs := [.nilSlice, .int .i64 0, .int .i64 1]) rfl (⟨_, _, rfl, rfl, ⟨_, _, rfl, rfl, ⟨_, _, rfl, rfl, rfl⟩⟩⟩) rfl rfl
  · skip
    exfalso
    rw [hT] at hc0
    cases hc0
theorem rBest_ok (p : Pnt) (hb : p.bs.length ≤ 8) (hbd : ∀ b ∈ p.bs, b.dry.length ≤ 14) (h : (coats p : Int) ≤ 6 ∨ 9 < coats p) : Pure Try.prog 19 [pntV p] (bestV (bestR p)) := by
  cases hT : pntB p with
  | false => exact rBest_0 p hb hbd hT
  | true =>
    have h9 := (pnt_ok hT).all
    exact rBest_1 p hb hbd hT (by omega)
theorem ints_B (x : Bst) (hx : ∀ y, x = some y → y.1.length ≤ 9) : Pure Try.prog 17 [ordV x, ordV x] (.bool true) := by
  cases x with
  | none =>
    have h := ints_ok [] [] (by decide) (by decide)
    have h2 := Pure.acc (n := 0) [] (fun _ => rfl) (show Pure Try.prog 17 ([] ++ .is [] 0 :: [.is [] 0]) (.bool true) from h)
    exact Pure.acc (n := 0) [.nilSlice] (r := []) (fun _ => rfl) h2
  | some y =>
    have hl := hx y rfl
    have h := ints_ok y.1 y.1 (by unfold bigN; omega) (by unfold bigN; omega)
    rwa [decide_eq_true rfl] at h
theorem best_len {p : Pnt} (hp : Ok p) (hT : pntB p = true) : ∀ y, (bestR p).1 = some y → y.1.length ≤ 9 := by
  intro y hy
  have e : (bestR p).1 = (bstF p (coats p) shp0 [] none) := by
    unfold bestR
    rw [if_neg (by rw [hT]; decide)]
    split
    · rename_i h
      cases hb : (bstF p (coats p) shp0 [] none) with
      | none => rfl
      | some z => rw [hb] at h; cases h
    · rfl
  rw [e, ← refN_best hT] at hy
  rcases idx_in p (ordF p (coats p) []) (ordF p (coats p) []).length (Nat.le_refl _) with ⟨h1, _⟩ | ⟨k, hk, _, t, h2⟩
  · rw [h1] at hy; cases hy
  · rw [h2] at hy
    cases hy
    have h3 := ord9 hp (lsI_mem hk)
    have h4 := hp.all
    show (lsI _ k).length ≤ 9
    omega
theorem ints_best (p : Pnt) : Pure Try.prog 17 [ordV (bestR p).1, ordV (bestR p).1] (.bool true) := by
  refine ints_B _ fun y hy => ?_
  cases hT : pntB p with
  | false =>
    unfold bestR at hy
    rw [if_pos hT] at hy
    cases hy
  | true => exact best_len (pnt_ok hT) hT y hy
theorem lawBests_walk (p : Pnt) (hbb : p.bs.length ≤ bigN) : Pure Try.prog 4 [pntV p] (.bool true) := by
  refine Pure.start (N := 40) Try.func4 rfl rfl (Nat.le_of_ble_eq_true rfl) ?_
  refine AWp.seq ?_
  refine AWp.region ?_
  refine AList.c 1 rfl rfl rfl (OpJ.boxImm rfl rfl rfl) ?_
  refine AList.c 2 rfl rfl rfl (OpJ.assign rfl rfl) ?_
  refine AList.nil ?_
  refine AWp.seq ?_
  refine AWp.seq ?_
  refine AWp.region ?_
  refine AList.c 9 rfl rfl rfl (OpJ.load (v := .p (pntV p)) rfl rfl ty24 rfl) ?_
  refine AList.c 10 rfl rfl rfl (OpJ.callP (large_ok p 6 hbb) rfl rfl rfl rfl rf9) ?_
  refine AList.nil ?_
  refine AWp.cond _ rfl (fun hc0 => ?_) (fun hc0 => ?_)
  · skip
    refine AWp.seq ?_
    refine AWp.region ?_
    refine AList.c 11 rfl rfl rfl (OpJ.callP (awake_ok) rfl rfl rfl rfl rf10) ?_
    refine AList.c 2 rfl rfl rfl (OpJ.assign rfl rfl) ?_
    refine AList.nil ?_
    refine AWp.ret ?_
    exact Fin.oneE rfl rfl rfl
  · skip
    obtain ⟨hb, hbd, hco⟩ := lrg_no (show lrgB p 6 = false from hc0)
    refine AWp.skip ?_
    refine AWp.seq ?_
    refine AWp.region ?_
    refine AList.c 13 rfl rfl rfl (OpJ.load (v := .p (pntV p)) rfl rfl ty24 rfl) ?_
    refine AList.c 14 rfl rfl rfl (OpJ.callP (best_ok p hb hbd) rfl rfl rfl rfl rf18) ?_
    refine AList.c 12 rfl rfl rfl (OpJ.move rfl rfl) ?_
    refine AList.c 15 rfl rfl rfl (OpJ.extract rfl rfl rfl) ?_
    refine AList.c 16 rfl rfl rfl (OpJ.extract rfl rfl rfl) ?_
    refine AList.c 17 rfl rfl rfl (OpJ.extract rfl rfl rfl) ?_
    refine AList.c 3 rfl rfl rfl (OpJ.assign rfl rfl) ?_
    refine AList.c 4 rfl rfl rfl (OpJ.assign rfl rfl) ?_
    refine AList.c 5 rfl rfl rfl (OpJ.assign rfl rfl) ?_
    refine AList.nil ?_
    refine AWp.seq ?_
    refine AWp.region ?_
    refine AList.c 19 rfl rfl rfl (OpJ.load (v := .p (pntV p)) rfl rfl ty24 rfl) ?_
    refine AList.c 20 rfl rfl rfl (OpJ.callP (rBest_ok p hb hbd hco) rfl rfl rfl rfl rf19) ?_
    refine AList.c 18 rfl rfl rfl (OpJ.move rfl rfl) ?_
    refine AList.c 21 rfl rfl rfl (OpJ.extract rfl rfl rfl) ?_
    refine AList.c 22 rfl rfl rfl (OpJ.extract rfl rfl rfl) ?_
    refine AList.c 23 rfl rfl rfl (OpJ.extract rfl rfl rfl) ?_
    refine AList.c 6 rfl rfl rfl (OpJ.assign rfl rfl) ?_
    refine AList.c 7 rfl rfl rfl (OpJ.assign rfl rfl) ?_
    refine AList.c 8 rfl rfl rfl (OpJ.assign rfl rfl) ?_
    refine AList.nil ?_
    refine AWp.seq ?_
    refine AWp.region ?_
    refine AList.c 24 rfl rfl rfl (OpJ.move rfl rfl) ?_
    refine AList.c 25 rfl rfl rfl (OpJ.move rfl rfl) ?_
    refine AList.c 26 rfl rfl rfl (OpJ.callP (ints_best p) rfl rfl rfl rfl rf17) ?_
    refine AList.c 27 rfl rfl rfl (OpJ.move rfl rfl) ?_
    refine AList.g 28 27 rfl rfl rfl rfl rfl rfl rfl [(4, _)] (fun h => And.intro (.inl rfl) (trivial)) (fun h => (OpJ.move rfl rfl)) ?_
    refine AList.g 29 27 rfl rfl rfl rfl rfl rfl rfl [(7, _)] (fun h => And.intro (.inl rfl) (trivial)) (fun h => (OpJ.move rfl rfl)) ?_
    refine AList.g 30 27 rfl rfl rfl rfl rfl rfl rfl [(28, _), (29, _)] (fun h => And.intro (.inr ⟨_, rfl, h⟩) (And.intro (.inr ⟨_, rfl, h⟩) (trivial))) (fun h => (OpJ.eql rfl rfl rfl)) ?_
    refine AList.c 31 rfl rfl rfl (OpJ.and_ rfl rfl rfl ?_) ?_
    · first | (intro h; rw [h]; rfl) | (intro h; simp_all)
    refine AList.c 32 rfl rfl rfl (OpJ.move rfl rfl) ?_
    refine AList.g 33 32 rfl rfl rfl rfl rfl rfl rfl [(5, _)] (fun h => And.intro (.inl rfl) (trivial)) (fun h => (OpJ.move rfl rfl)) ?_
    refine AList.g 34 32 rfl rfl rfl rfl rfl rfl rfl [(8, _)] (fun h => And.intro (.inl rfl) (trivial)) (fun h => (OpJ.move rfl rfl)) ?_
    refine AList.g 35 32 rfl rfl rfl rfl rfl rfl rfl [(33, _), (34, _)] (fun h => And.intro (.inr ⟨_, rfl, h⟩) (And.intro (.inr ⟨_, rfl, h⟩) (trivial))) (fun h => (OpJ.eql rfl rfl rfl)) ?_
    refine AList.c 36 rfl rfl rfl (OpJ.and_ rfl rfl rfl ?_) ?_
    · first | (intro h; rw [h]; rfl) | (intro h; simp_all)
    refine AList.c 37 rfl rfl rfl (OpJ.move rfl rfl) ?_
    refine AList.g 38 37 rfl rfl rfl rfl rfl rfl rfl [] (fun h => trivial) (fun h => (OpJ.callP (awake_ok) rfl rfl rfl rfl rf10)) ?_
    refine AList.c 39 rfl rfl rfl (OpJ.and_ rfl rfl rfl ?_) ?_
    · first | (intro h; rw [h]; rfl) | (intro h; simp_all)
    refine AList.c 2 rfl rfl rfl (OpJ.assign rfl rfl) ?_
    refine AList.nil ?_
    refine AWp.ret ?_
    refine Fin.oneE rfl rfl ?_
    simp
theorem coatBests_law {x0 : List PV} (h0 : TyL [.leaf (.int .i64), .leaf (.int .i64), .sl [.sl [.leaf (.int .i64), .leaf (.int .i64)], .leaf (.int .i64)]] x0) : Pure Try.prog 4 [argP true x0] (.bool true) := by
  obtain ⟨p, rfl, hp⟩ := pnt_of h0
  exact lawBests_walk p hp
end Go.Proofs.Ytibgdkaipleajaa
end
