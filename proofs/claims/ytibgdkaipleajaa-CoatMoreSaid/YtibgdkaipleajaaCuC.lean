/-
  The search for the best order.
  The best order.
  What the statements look at; the document's examples.
-/
import Derived.Test.YtibgdkaipleajaaCuB
import Derived.Test.YtibgdkaipleajaaCuP
import Derived.Test.YtibgdkaipleajaaCuF
section
set_option linter.unusedVariables false
set_option maxRecDepth 100000
set_option maxHeartbeats 4000000
set_option linter.unusedSimpArgs false
namespace Go.Proofs.Ytibgdkaipleajaa
open Go.AF
theorem oneI (v : List Int) : (((v.flatMap i1).map V.p).all oneV) = true := by
  simp only [List.all_map, List.all_flatMap, List.all_eq_true]
  intro s _ x hx
  simp [i1] at hx
  subst hx; rfl
theorem doneP_ok (p : Pnt) (S : Shp) : Pure Try.prog 41 [.ip (shpL p S) 0] (.int .i64 (doneN S)) := by
  refine Pure.start (N := 18) Try.func41 rfl rfl (Nat.le_of_ble_eq_true rfl) ?_
  refine AWp.seq ?_
  refine AWp.region ?_
  refine AList.c 2 rfl rfl rfl (OpJ.assign rfl rfl) ?_
  refine AList.nil ?_
  refine AWp.seq ?_
  refine AWp.seq ?_
  refine AWp.region ?_
  refine AList.c 5 rfl rfl rfl (OpJ.move rfl rfl) ?_
  refine AList.c 6 rfl rfl rfl (OpJ.nilCheckP rfl rfl) ?_
  refine AList.c 7 rfl rfl rfl (OpJ.fieldAddr rfl rfl fd66_1 rfl) ?_
  refine AList.c 8 rfl rfl rfl (OpJ.load (v := .p (.agg ((hadL S).flatMap Hng.cells))) rfl rfl ty64 rfl) ?_
  refine AList.c 9 rfl rfl rfl (OpJ.move rfl rfl) ?_
  refine AList.nil ?_
  refine AWp.block ?_
  refine AWp.unroll 5 ?_
  refine ARounds.next ?_
  refine AWp.seq ?_
  refine AWp.region ?_
  refine AList.c 10 rfl rfl rfl (OpJ.lss rfl rfl rfl) ?_
  refine AList.nil ?_
  refine AWp.seq ?_
  refine AWp.condT rfl ?_
  refine AWp.skip ?_
  refine AWp.seq ?_
  refine AWp.block ?_
  refine AWp.seq ?_
  refine AWp.region ?_
  refine AList.c 11 rfl rfl rfl (OpJ.indexV (v := .p (.agg (S.had 0).cells)) rfl rfl rfl av64 (by decide) (by decide) rfl) ?_
  refine AList.c 4 rfl rfl rfl (OpJ.allocOwn rfl zr63 rfl) ?_
  refine AList.c0 rfl rfl (OpJ.store rfl rfl rfl rfl rfl ty63 rfl rfl) ?_
  refine AList.nil ?_
  refine AWp.region ?_
  refine AList.c 12 rfl rfl rfl (OpJ.move rfl rfl) ?_
  refine AList.c 13 rfl rfl rfl (OpJ.fieldAddr rfl rfl fd63_3 rfl) ?_
  refine AList.c 14 rfl rfl rfl (OpJ.load (v := .p (.int .i64 (S.had 0).surely)) rfl rfl ty3 rfl) ?_
  refine AList.c 15 rfl rfl rfl (OpJ.max2 rfl rfl rfl) ?_
  refine AList.c 2 rfl rfl rfl (OpJ.assign rfl rfl) ?_
  refine AList.nil ?_
  refine AWp.region ?_
  refine AList.c 16 rfl rfl rfl (OpJ.add rfl rfl rfl (i64ok ?_)) ?_
  · decide
  refine AList.c 9 rfl rfl rfl (OpJ.move rfl rfl) ?_
  refine AList.nil ?_
  refine ARounds.next ?_
  refine AWp.norm [] [(0, _), (2, _), (8, _), (9, _)] [] rfl (by repeat (first | exact Sub.nil | refine Sub.cons rfl ?_)) rfl ?_
  refine AWp.seq ?_
  refine AWp.region ?_
  refine AList.c 10 rfl rfl rfl (OpJ.lss rfl rfl rfl) ?_
  refine AList.nil ?_
  refine AWp.seq ?_
  refine AWp.condT rfl ?_
  refine AWp.skip ?_
  refine AWp.seq ?_
  refine AWp.block ?_
  refine AWp.seq ?_
  refine AWp.region ?_
  refine AList.c 11 rfl rfl rfl (OpJ.indexV (v := .p (.agg (S.had 1).cells)) rfl rfl rfl av64 (by decide) (by decide) rfl) ?_
  refine AList.c 4 rfl rfl rfl (OpJ.allocOwn rfl zr63 rfl) ?_
  refine AList.c0 rfl rfl (OpJ.store rfl rfl rfl rfl rfl ty63 rfl rfl) ?_
  refine AList.nil ?_
  refine AWp.region ?_
  refine AList.c 12 rfl rfl rfl (OpJ.move rfl rfl) ?_
  refine AList.c 13 rfl rfl rfl (OpJ.fieldAddr rfl rfl fd63_3 rfl) ?_
  refine AList.c 14 rfl rfl rfl (OpJ.load (v := .p (.int .i64 (S.had 1).surely)) rfl rfl ty3 rfl) ?_
  refine AList.c 15 rfl rfl rfl (OpJ.max2 rfl rfl rfl) ?_
  refine AList.c 2 rfl rfl rfl (OpJ.assign rfl rfl) ?_
  refine AList.nil ?_
  refine AWp.region ?_
  refine AList.c 16 rfl rfl rfl (OpJ.add rfl rfl rfl (i64ok ?_)) ?_
  · decide
  refine AList.c 9 rfl rfl rfl (OpJ.move rfl rfl) ?_
  refine AList.nil ?_
  refine ARounds.next ?_
  refine AWp.norm [] [(0, _), (2, _), (8, _), (9, _)] [] rfl (by repeat (first | exact Sub.nil | refine Sub.cons rfl ?_)) rfl ?_
  refine AWp.seq ?_
  refine AWp.region ?_
  refine AList.c 10 rfl rfl rfl (OpJ.lss rfl rfl rfl) ?_
  refine AList.nil ?_
  refine AWp.seq ?_
  refine AWp.condT rfl ?_
  refine AWp.skip ?_
  refine AWp.seq ?_
  refine AWp.block ?_
  refine AWp.seq ?_
  refine AWp.region ?_
  refine AList.c 11 rfl rfl rfl (OpJ.indexV (v := .p (.agg (S.had 2).cells)) rfl rfl rfl av64 (by decide) (by decide) rfl) ?_
  refine AList.c 4 rfl rfl rfl (OpJ.allocOwn rfl zr63 rfl) ?_
  refine AList.c0 rfl rfl (OpJ.store rfl rfl rfl rfl rfl ty63 rfl rfl) ?_
  refine AList.nil ?_
  refine AWp.region ?_
  refine AList.c 12 rfl rfl rfl (OpJ.move rfl rfl) ?_
  refine AList.c 13 rfl rfl rfl (OpJ.fieldAddr rfl rfl fd63_3 rfl) ?_
  refine AList.c 14 rfl rfl rfl (OpJ.load (v := .p (.int .i64 (S.had 2).surely)) rfl rfl ty3 rfl) ?_
  refine AList.c 15 rfl rfl rfl (OpJ.max2 rfl rfl rfl) ?_
  refine AList.c 2 rfl rfl rfl (OpJ.assign rfl rfl) ?_
  refine AList.nil ?_
  refine AWp.region ?_
  refine AList.c 16 rfl rfl rfl (OpJ.add rfl rfl rfl (i64ok ?_)) ?_
  · decide
  refine AList.c 9 rfl rfl rfl (OpJ.move rfl rfl) ?_
  refine AList.nil ?_
  refine ARounds.next ?_
  refine AWp.norm [] [(0, _), (2, _), (8, _), (9, _)] [] rfl (by repeat (first | exact Sub.nil | refine Sub.cons rfl ?_)) rfl ?_
  refine AWp.seq ?_
  refine AWp.region ?_
  refine AList.c 10 rfl rfl rfl (OpJ.lss rfl rfl rfl) ?_
  refine AList.nil ?_
  refine AWp.seq ?_
  refine AWp.condT rfl ?_
  refine AWp.skip ?_
  refine AWp.seq ?_
  refine AWp.block ?_
  refine AWp.seq ?_
  refine AWp.region ?_
  refine AList.c 11 rfl rfl rfl (OpJ.indexV (v := .p (.agg (S.had 3).cells)) rfl rfl rfl av64 (by decide) (by decide) rfl) ?_
  refine AList.c 4 rfl rfl rfl (OpJ.allocOwn rfl zr63 rfl) ?_
  refine AList.c0 rfl rfl (OpJ.store rfl rfl rfl rfl rfl ty63 rfl rfl) ?_
  refine AList.nil ?_
  refine AWp.region ?_
  refine AList.c 12 rfl rfl rfl (OpJ.move rfl rfl) ?_
  refine AList.c 13 rfl rfl rfl (OpJ.fieldAddr rfl rfl fd63_3 rfl) ?_
  refine AList.c 14 rfl rfl rfl (OpJ.load (v := .p (.int .i64 (S.had 3).surely)) rfl rfl ty3 rfl) ?_
  refine AList.c 15 rfl rfl rfl (OpJ.max2 rfl rfl rfl) ?_
  refine AList.c 2 rfl rfl rfl (OpJ.assign rfl rfl) ?_
  refine AList.nil ?_
  refine AWp.region ?_
  refine AList.c 16 rfl rfl rfl (OpJ.add rfl rfl rfl (i64ok ?_)) ?_
  · decide
  refine AList.c 9 rfl rfl rfl (OpJ.move rfl rfl) ?_
  refine AList.nil ?_
  refine ARounds.next ?_
  refine AWp.norm [] [(0, _), (2, _), (8, _), (9, _)] [] rfl (by repeat (first | exact Sub.nil | refine Sub.cons rfl ?_)) rfl ?_
  refine AWp.seq ?_
  refine AWp.region ?_
  refine AList.c 10 rfl rfl rfl (OpJ.lss rfl rfl rfl) ?_
  refine AList.nil ?_
  refine AWp.seq ?_
  refine AWp.condF rfl ?_
  refine AWp.exit ?_
  refine AWp.seq ?_
  refine AWp.region ?_
  refine AList.c 17 rfl rfl rfl (OpJ.move rfl rfl) ?_
  refine AList.c 2 rfl rfl rfl (OpJ.assign rfl rfl) ?_
  refine AList.nil ?_
  refine AWp.ret ?_
  exact Fin.oneE rfl rfl rfl
theorem clone_ok (l : List Int) (h0 : 0 < l.length) (h9 : l.length ≤ 100) : Pure Try.prog 42 [intsV l] (intsV l) := by
  refine Pure.start (N := 8) Try.func42 rfl rfl (Nat.le_of_ble_eq_true rfl) ?_
  refine AWp.seq ?_
  refine AWp.region ?_
  refine AList.c 2 rfl rfl rfl (OpJ.assign rfl rfl) ?_
  refine AList.nil ?_
  refine AWp.seq ?_
  refine AWp.seq ?_
  refine AWp.region ?_
  refine AList.c 3 rfl rfl rfl (OpJ.move rfl rfl) ?_
  refine AList.c 4 rfl rfl rfl (OpJ.eqNil rfl rfl rfl slz26 h0) ?_
  refine AList.nil ?_
  refine AWp.cond _ rfl (fun hc0 => ?_) (fun hc0 => ?_)
  · skip
    cases hc0
  · skip
    refine AWp.skip ?_
    refine AWp.seq ?_
    refine AWp.region ?_
    refine AList.c 5 rfl rfl rfl (OpJ.buildOwn rfl slz26 (by decide) rfl rfl) ?_
    refine AList.c 6 rfl rfl rfl (OpJ.move rfl rfl) ?_
    refine AList.c 7 rfl rfl rfl (OpJ.appendRow rfl rfl rfl slz26 sl26 rfl ?_ (asrc_is (by rw [flat_len (c := 1) (fun _ => rfl)]; rfl)) (oneI l) by3 (by decide) ?_) ?_
    · rfl
    · show (2 * (0 + l.length) + 192) * 8 ≤ 281474976710656; omega
    refine AList.c 2 rfl rfl rfl (OpJ.assign rfl rfl) ?_
    refine AList.nil ?_
    refine AWp.freeze 1 rfl (show allP (_ ++ _) = some (l.flatMap i1) from allP_map (l.flatMap i1)) ?_
    refine AWp.ret ?_
    exact Fin.oneE rfl rfl (by unfold intsV; rw [Nat.zero_add])
def capB (p : Pnt) : List V := [.ptr 2 0, .ptr 0 0, .ptr 1 0, .p (.ip (pntC p) 0), .ptr 3 0]
def OnOk (p : Pnt) (many : Nat) (f : Nat) (S : Shp) (l : List Int) : Prop := ∀ st, okS st → ACalls Try.prog 40 (.ptr 4 0 :: .p (intsV l) :: capB p) [.cells [.p (ordV st)] 26, .cells [.p (.int .i64 (hrV st))] 3, .cells [.p (.int .i64 (many : Int))] 3, .cells [.func (.func 40) [] (capB p)] 84, .cells (List.map V.p (shpL p S)) 66] fun v H' => H' = [.cells [.p (ordV (bstF p f S l st))] 26, .cells [.p (.int .i64 (hrV (bstF p f S l st)))] 3, .cells [.p (.int .i64 (many : Int))] 3, .cells [.func (.func 40) [] (capB p)] 84, .cells (List.map V.p (shpL p S)) 66]
theorem on_step (p : Pnt) (hp : Ok p) (many : Nat) (hm1 : 1 ≤ many) (hm9 : many ≤ 9) (f : Nat) (S : Shp) (l : List Int) (hlen : l.length + f = many) (hS : ShB (2048 * (l.length : Int)) S) (IH : ∀ g, f = g + 1 → ∀ b : Nat, b < p.bs.length → OnOk p many g (nextN p S (b : Int)).1 (l ++ [(b : Int)])) : OnOk p many f S l := by
  intro st hst
  have hn4 := hp.n
  refine ACalls.start (N := 70) Try.func40 rfl rfl (Nat.le_of_ble_eq_true rfl) ?_
  refine AWp.scope ?_
  refine AWp.seq ?_
  refine AWp.seq ?_
  refine AWp.region ?_
  refine AList.c 15 rfl rfl rfl (OpJ.move rfl rfl) ?_
  refine AList.c 16 rfl rfl rfl (OpJ.lenSlice rfl rfl sl26 rfl) ?_
  refine AList.c 17 rfl rfl rfl (OpJ.load (v := .p (.int .i64 (many : Int))) rfl rfl ty3 rfl) ?_
  refine AList.c 18 rfl rfl rfl (OpJ.eql rfl rfl rfl) ?_
  refine AList.nil ?_
  refine AWp.cond _ rfl (fun hc0 => ?_) (fun hc0 => ?_)
  · skip
    obtain rfl : f = 0 := by have h := of_decide_eq_true hc0; omega
    refine AWp.seq ?_
    refine AWp.seq ?_
    refine AWp.region ?_
    refine AList.c 19 rfl rfl rfl (OpJ.move rfl rfl) ?_
    refine AList.c 20 rfl rfl rfl (OpJ.callB 3 (doneP_ok p S) rfl rfl rfl rfl rfl (mapO.c (brwPtr rfl) mapO.n) rf41) ?_
    refine AList.c 9 rfl rfl rfl (OpJ.assign rfl rfl) ?_
    refine AList.nil ?_
    refine AWp.seq ?_
    refine AWp.region ?_
    refine AList.c 21 rfl rfl rfl (OpJ.load (v := .p (ordV st)) rfl rfl ty26 rfl) ?_
    refine AList.c 22 rfl rfl rfl (OpJ.eqNilQ rfl rfl rfl slz26 (nilQ_ord hst)) ?_
    refine AList.c 23 rfl rfl rfl (OpJ.move rfl rfl) ?_
    refine AList.g 24 23 rfl rfl rfl rfl rfl rfl rfl [(9, _)] (fun h => And.intro (.inl rfl) (trivial)) (fun h => (OpJ.move rfl rfl)) ?_
    refine AList.g 25 23 rfl rfl rfl rfl rfl rfl rfl [(4, _)] (fun h => And.intro (.inl rfl) (trivial)) (fun h => (OpJ.load (v := .p (.int .i64 (hrV st))) rfl rfl ty3 rfl)) ?_
    refine AList.g 26 23 rfl rfl rfl rfl rfl rfl rfl [(24, _), (25, _)] (fun h => And.intro (.inr ⟨_, rfl, h⟩) (And.intro (.inr ⟨_, rfl, h⟩) (trivial))) (fun h => (OpJ.lss rfl rfl rfl)) ?_
    refine AList.c 27 rfl rfl rfl (OpJ.or_ rfl rfl rfl ?_) ?_
    · first | (intro h; rw [h]; rfl) | (intro h; simp_all)
    refine AList.nil ?_
    refine AWp.cond _ rfl (fun hc1 => ?_) (fun hc1 => ?_)
    · skip
      have e : bstF p 0 S l st = some (l, doneN S) := if_pos hc1
      rw [e]
      refine AWp.region ?_
      refine AList.c 28 rfl rfl rfl (OpJ.move rfl rfl) ?_
      refine AList.c 29 rfl rfl rfl (OpJ.callP (clone_ok l (by omega) (by omega)) rfl rfl rfl rfl rf42) ?_
      refine AList.c 30 rfl rfl rfl (OpJ.move rfl rfl) ?_
      refine AList.c0 rfl rfl (OpJ.store rfl rfl rfl rfl rfl ty26 rfl rfl) ?_
      refine AList.c0 rfl rfl (OpJ.store rfl rfl rfl rfl rfl ty3 rfl rfl) ?_
      refine AList.nil ?_
      refine AWp.ret ?_
      exact ⟨.inr rfl, _, resV.none_ rfl, rfl⟩
    · skip
      have e : bstF p 0 S l st = st := if_neg (by show ¬ (st.isNone || decide (doneN S < hrV st)) = true; rw [show (st.isNone || decide (doneN S < hrV st)) = false from hc1]; decide)
      rw [e]
      refine AWp.skip ?_
      refine AWp.ret ?_
      exact ⟨.inr rfl, _, resV.none_ rfl, rfl⟩
  · skip
    obtain ⟨f, rfl⟩ : ∃ g, f = g + 1 := ⟨f - 1, by have h := of_decide_eq_false hc0; omega⟩
    refine AWp.skip ?_
    refine AWp.seq ?_
    refine AWp.label ?_
    refine AWp.seq ?_
    refine AWp.region ?_
    refine AList.c 31 rfl rfl rfl (OpJ.fieldAddr rfl rfl fd24_2 rfl) ?_
    refine AList.c 32 rfl rfl rfl (OpJ.load (v := .p (cotsV p.bs)) rfl rfl ty22 rfl) ?_
    refine AList.c 33 rfl rfl rfl (OpJ.lenSlice rfl rfl sl22 rfl) ?_
    refine AList.c 34 rfl rfl rfl (OpJ.move rfl rfl) ?_
    refine AList.nil ?_
    refine AWp.block ?_
    refine AWp.loopHL [0, 1, 3, 4, 6, 33] (fun g => [(34, .p (.int .i64 ((g : Nat) : Int)))]) (fun g => [.cells [.p (ordV (bstE p (bstF p f) S l g st))] 26, .cells [.p (.int .i64 (hrV (bstE p (bstF p f) S l g st)))] 3, .cells [.p (.int .i64 (many : Int))] 3, .cells [.func (.func 40) [] (capB p)] 84, .cells (List.map V.p (shpL p S)) 66]) (fun g => g ≤ p.bs.length) (fun g => p.bs.length - g) 0 (Nat.zero_le _) (To.sub (Sub.chk (Sub.cons rfl (Sub.nil)))) (fun b hg => ?_)
    refine AWp.seq ?_
    refine AWp.region ?_
    refine AList.c 35 rfl rfl rfl (OpJ.lss rfl rfl rfl) ?_
    refine AList.nil ?_
    refine AWp.seq ?_
    refine AWp.cond _ rfl (fun hc2 => ?_) (fun hc2 => ?_)
    · skip
      have hb : b < p.bs.length := by have h := of_decide_eq_true hc2; omega
      have hsb := bstE_ok (p := p) (F := bstF p f) (S := S) (l := l) (fun S' l' st' h1 h2 => bstF_ok f S' l' st' h1 (by omega)) b st hst
      refine AWp.skip ?_
      refine AWp.seq ?_
      refine AWp.block ?_
      refine AWp.seq ?_
      refine AWp.region ?_
      refine AList.c 36 rfl rfl rfl (OpJ.move rfl rfl) ?_
      refine AList.c 10 rfl rfl rfl (OpJ.assign rfl rfl) ?_
      refine AList.nil ?_
      refine AWp.seq ?_
      refine AWp.region ?_
      refine AList.c 37 rfl rfl rfl (OpJ.move rfl rfl) ?_
      refine AList.c 38 rfl rfl rfl (OpJ.nilCheck rfl rfl) ?_
      refine AList.c 39 rfl rfl rfl (OpJ.load (v := .p (.agg (shpL p S))) rfl rfl ty66 rfl) ?_
      refine AList.c 11 rfl rfl rfl (OpJ.allocOwn rfl zr66 rfl) ?_
      refine AList.c0 rfl rfl (OpJ.store (H' := [.cells [.p (ordV (bstE p (bstF p f) S l b st))] 26, .cells [.p (.int .i64 (hrV (bstE p (bstF p f) S l b st)))] 3, .cells [.p (.int .i64 (many : Int))] 3, .cells [.func (.func 40) [] (capB p)] 84, .cells (List.map V.p (shpL p S)) 66, .cells (List.map V.p (shpL p S)) 66]) rfl rfl rfl rfl rfl ty66 rfl rfl) ?_
      refine AList.nil ?_
      refine AWp.seq ?_
      refine AWp.seq ?_
      refine AWp.region ?_
      refine AList.c 41 rfl rfl rfl (OpJ.move rfl rfl) ?_
      refine AList.callXK 42 [5] (all := [.ptr 5 0, .p (.int .i64 ((b : Nat) : Int))]) (by show ACalls _ _ _ [Blk.cells (renL _ (List.map V.p _)) _] _; rw [renL_pure]; exact next_ok p hp S (b : Int) _ hS (by omega)) (fun v H2 h => by rw [h.2]; rfl) (by rfl) (by rfl) rfl rfl rfl rfl rfl rfl rfl rf36 (fun v H2 hQ2 => ?_)
      obtain ⟨rfl, rfl⟩ := hQ2
      refine AList.c 40 rfl rfl rfl (OpJ.move rfl rfl) ?_
      refine AList.c 43 rfl rfl rfl (OpJ.extract rfl rfl rfl) ?_
      refine AList.c 44 rfl rfl rfl (OpJ.extract rfl rfl rfl) ?_
      refine AList.c 12 rfl rfl rfl (OpJ.assign rfl rfl) ?_
      refine AList.c 13 rfl rfl rfl (OpJ.assign rfl rfl) ?_
      refine AList.nil ?_
      refine AWp.seq ?_
      refine AWp.norm [0, 1, 2, 3, 4, 5] [(0, _), (1, _), (3, _), (4, _), (6, _), (10, _), (11, _), (13, _), (33, _), (34, _)] [.cells [.p (ordV (bstE p (bstF p f) S l b st))] 26, .cells [.p (.int .i64 (hrV (bstE p (bstF p f) S l b st)))] 3, .cells [.p (.int .i64 (many : Int))] 3, .cells [.func (.func 40) [] (capB p)] 84, .cells (List.map V.p (shpL p S)) 66, .cells (List.map V.p (shpL p (nextN p S (b : Int)).1)) 66] rfl (by repeat (first | exact Sub.nil | refine Sub.cons rfl ?_)) (by show [Blk.cells [V.p _] _, Blk.cells [V.p _] _, Blk.cells [V.p _] _, Blk.cells [V.func _ _ _] _, Blk.cells (renL _ (List.map V.p _)) _, Blk.cells (renL _ (renL _ (List.map V.p _))) _] = _; rw [renL_pure, renL_pure, renL_pure]; rfl) ?_
      refine AWp.regionDraw 11 mixed (by kernel_rfl) (by decide) ?_
      refine AQuiet.cons 45 rfl rfl rfl (OpJ.move rfl rfl) ?_
      refine AQuiet.cons 46 rfl rfl rfl (OpJ.neq rfl rfl rfl) ?_
      refine AQuiet.cons 47 rfl rfl rfl (OpJ.move rfl rfl) ?_
      refine AQuiet.guard 48 47 rfl rfl rfl rfl rfl rfl rfl [(3, _)] (fun h => And.intro (.inl rfl) (trivial)) (fun h => (OpJ.load (v := .p (ordV (bstE p (bstF p f) S l b st))) rfl rfl ty26 rfl)) ?_
      refine AQuiet.guard 49 47 rfl rfl rfl rfl rfl rfl rfl [(48, _)] (fun h => And.intro (.inr ⟨_, rfl, h⟩) (trivial)) (fun h => (OpJ.neqNilQ rfl rfl rfl slz26 (nilQ_ord hsb))) ?_
      refine AQuiet.guard 50 47 rfl rfl rfl rfl rfl rfl rfl [(49, _)] (fun h => And.intro (.inr ⟨_, rfl, h⟩) (trivial)) (fun h => (OpJ.move rfl rfl)) ?_
      refine AQuiet.guard 51 50 rfl rfl rfl rfl rfl rfl rfl [(11, _)] (fun h => And.intro (.inl rfl) (trivial)) (fun h => (OpJ.callB 3 (doneP_ok p (nextN p S (b : Int)).1) rfl rfl rfl rfl rfl (mapO.c (brwPtr rfl) mapO.n) rf41)) ?_
      refine AQuiet.guard 52 50 rfl rfl rfl rfl rfl rfl rfl [(4, _)] (fun h => And.intro (.inl rfl) (trivial)) (fun h => (OpJ.load (v := .p (.int .i64 (hrV (bstE p (bstF p f) S l b st)))) rfl rfl ty3 rfl)) ?_
      refine AQuiet.guard 53 50 rfl rfl rfl rfl rfl rfl rfl [(51, _), (52, _)] (fun h => And.intro (.inr ⟨_, rfl, h⟩) (And.intro (.inr ⟨_, rfl, h⟩) (trivial))) (fun h => (OpJ.geq rfl rfl rfl)) ?_
      refine AQuiet.guard 54 47 rfl rfl rfl rfl rfl rfl rfl [(50, _), (53, _)] (fun h => And.intro (.inr ⟨_, rfl, h⟩) (And.intro (.inl rfl) (trivial))) (fun h => (OpJ.and_ rfl rfl rfl (fun e => by simp_all))) ?_
      refine AQuiet.cons 55 rfl rfl rfl (OpJ.or_ rfl rfl rfl ?_) ?_
      · first | (intro h; rw [h]; rfl) | (intro h; simp_all)
      refine AQuiet.nil ?_
      refine AList.nil ?_
      refine AWp.cond _ rfl (fun hc3 => ?_) (fun hc3 => ?_)
      · skip
        have e : bstE p (bstF p f) S l (b + 1) st = (bstE p (bstF p f) S l b st) := if_pos hc3
        refine AWp.exit ?_
        refine AWp.region ?_
        refine AList.c 69 rfl rfl rfl (OpJ.add rfl rfl rfl (i64ok ?_)) ?_
        · omega
        refine AList.c 34 rfl rfl rfl (OpJ.move rfl rfl) ?_
        refine AList.nil ?_
        refine ⟨b + 1, ?_, ?_, ?_⟩
        · omega
        · omega
        rw [e]
        exact To.done [0, 1, 2, 3, 4] rfl (Sub.cons rfl (by repeat (first | exact Sub.nil | refine Sub.cons rfl ?_))) (by show [Blk.cells [V.p _] _, Blk.cells [V.p _] _, Blk.cells [V.p _] _, Blk.cells [V.func _ _ _] _, Blk.cells (renL _ (List.map V.p _)) _] = _; rw [renL_pure]; rfl)
      · skip
        have e : bstE p (bstF p f) S l (b + 1) st = bstF p f (nextN p S (b : Int)).1 (l ++ [(b : Int)]) (bstE p (bstF p f) S l b st) := if_neg (by show ¬ skipB p S b (bstE p (bstF p f) S l b st) = true; rw [show skipB p S b (bstE p (bstF p f) S l b st) = false from hc3]; decide)
        refine AWp.skip ?_
        refine AWp.seq ?_
        refine AWp.region ?_
        refine AList.c 56 rfl rfl rfl (OpJ.move rfl rfl) ?_
        refine AList.c 57 rfl rfl rfl (OpJ.lenSlice rfl rfl sl26 rfl) ?_
        refine AList.c 58 rfl rfl rfl (OpJ.add (m := ((l.length + 1 : Nat) : Int)) rfl rfl rfl ((i64ok ?_).trans ?_)) ?_
        · omega
        · omega
        refine AList.c 59 rfl rfl rfl (OpJ.makeSlice (n := (l.length + 1)) (c := (l.length + 1)) rfl rfl rfl slz26 by3 (by decide) (Nat.le_refl _) (by show 8 * _ ≤ _; omega)) ?_
        refine AList.c 14 rfl rfl rfl (OpJ.assign rfl rfl) ?_
        refine AList.nil ?_
        refine AWp.seq ?_
        refine AWp.region ?_
        refine AList.c 60 rfl rfl rfl (OpJ.move rfl rfl) ?_
        refine AList.c 61 rfl rfl rfl (OpJ.move rfl rfl) ?_
        refine AList.c 62 rfl rfl rfl (OpJ.move rfl rfl) ?_
        refine AList.c 63 rfl rfl rfl (OpJ.copyRow rfl rfl rfl slz26 rfl (asrc_is (by rw [flat_len (c := 1) (fun _ => rfl)]; rfl)) (Nat.le_succ _) (by rw [List.length_map, List.length_map, flat_len (c := 1) (fun _ => rfl)]; simp) (oneI l)) ?_
        rw [copy_row]
        refine AList.c 64 rfl rfl rfl (OpJ.move rfl rfl) ?_
        refine AList.c 65 rfl rfl rfl (OpJ.indexRow rfl rfl rfl sl26 el26 (Nat.lt_succ_self _)) ?_
        refine AList.c0 rfl rfl (OpJ.storeRow (f := i1) (c := 1) (k := l.length) (j := 0) (xs := (l ++ [0])) (z := (b : Int)) (ws := [_]) rfl rfl rfl rfl rfl ty3 rfl rfl rfl (by omega) (fun _ => rfl) (by simp) (Nat.le_refl _) rfl) ?_
        refine AList.nil ?_
        rw [set_snoc]
        refine AWp.freeze 6 rfl (allP_map _) ?_
        refine AWp.norm [0, 1, 2, 3, 4, 5] [(0, _), (1, _), (3, _), (4, _), (6, _), (10, _), (11, _), (14, .p (intsV (l ++ [(b : Int)]))), (33, _), (34, _)] [.cells [.p (ordV (bstE p (bstF p f) S l b st))] 26, .cells [.p (.int .i64 (hrV (bstE p (bstF p f) S l b st)))] 3, .cells [.p (.int .i64 (many : Int))] 3, .cells [.func (.func 40) [] (capB p)] 84, .cells (List.map V.p (shpL p S)) 66, .cells (List.map V.p (shpL p (nextN p S (b : Int)).1)) 66] rfl (Sub.cons rfl (Sub.cons rfl (Sub.cons rfl (Sub.cons rfl (Sub.cons rfl (Sub.cons rfl (Sub.cons rfl (Sub.cons (by show some (V.p (PV.is _ (l.length + 1))) = some (V.p (intsV (l ++ [(b : Int)]))); unfold intsV; rw [List.length_append]; rfl) (by repeat (first | exact Sub.nil | refine Sub.cons rfl ?_)))))))))) (by show [Blk.cells [V.p _] _, Blk.cells [V.p _] _, Blk.cells [V.p _] _, Blk.cells [V.func _ _ _] _, Blk.cells (renL _ (List.map V.p _)) _, Blk.cells (renL _ (List.map V.p _)) _] = _; rw [renL_pure, renL_pure]; rfl) ?_
        refine AWp.region ?_
        refine AList.c 66 rfl rfl rfl (OpJ.load (v := .func (.func 40) [] (capB p)) rfl rfl ty84 rfl) ?_
        refine AList.c 67 rfl rfl rfl (OpJ.move rfl rfl) ?_
        refine AList.callXK 68 [0, 1, 2, 3, 5] (all := .ptr 5 0 :: .p (intsV (l ++ [(b : Int)])) :: capB p) (by show ACalls _ _ _ [Blk.cells [V.p _] _, Blk.cells [V.p _] _, Blk.cells [V.p _] _, Blk.cells [V.func _ _ _] _, Blk.cells (renL _ (List.map V.p _)) _] _; rw [renL_pure]; exact IH f rfl b hb _ hsb) (fun v H2 h => by rw [h]; rfl) (by rfl) (by rfl) rfl rfl rfl rfl rfl rfl rfl rf40 (fun v H2 hQ2 => ?_)
        subst hQ2
        refine AList.nil ?_
        refine AWp.region ?_
        refine AList.c 69 rfl rfl rfl (OpJ.add rfl rfl rfl (i64ok ?_)) ?_
        · omega
        refine AList.c 34 rfl rfl rfl (OpJ.move rfl rfl) ?_
        refine AList.nil ?_
        refine ⟨b + 1, ?_, ?_, ?_⟩
        · omega
        · omega
        rw [e]
        exact To.done [0, 1, 2, 3, 4] rfl (Sub.cons rfl (by repeat (first | exact Sub.nil | refine Sub.cons rfl ?_))) (by show [Blk.cells [V.p _] _, Blk.cells [V.p _] _, Blk.cells [V.p _] _, Blk.cells [V.func _ _ _] _, Blk.cells (renL _ (List.map V.p _)) _] = _; rw [renL_pure]; rfl)
    · skip
      obtain rfl : b = p.bs.length := by have h := of_decide_eq_false hc2; omega
      refine AWp.exit ?_
      exact ⟨.inl rfl, _, resV.none_ rfl, rfl⟩
end Go.Proofs.Ytibgdkaipleajaa
end

section
set_option linter.unusedVariables false
set_option maxRecDepth 100000
set_option maxHeartbeats 4000000
set_option linter.unusedSimpArgs false
namespace Go.Proofs.Ytibgdkaipleajaa
open Go.AF
theorem on_all {p : Pnt} (hp : Ok p) {many : Nat} (hm1 : 1 ≤ many) (hm9 : many ≤ 9) : ∀ (f : Nat) (S : Shp) (l : List Int), l.length + f = many → ShB (2048 * (l.length : Int)) S → OnOk p many f S l
  | 0, S, l, h, hS => on_step p hp many hm1 hm9 0 S l h hS fun g hg => by cases hg
  | f + 1, S, l, h, hS => on_step p hp many hm1 hm9 (f + 1) S l h hS fun g hg b hb => by
    cases hg
    refine on_all hp hm1 hm9 f _ _ (by rw [List.length_append]; show l.length + 1 + f = many; omega) ?_
    rw [show (2048 * ((l ++ [(b : Int)]).length : Int)) = 2048 * (l.length : Int) + 2048 by rw [List.length_append]; show (2048 * ((l.length + 1 : Nat) : Int)) = _; omega]
    exact next_B hp hS (b : Int)
theorem nil_arg {P : Program} {f : FuncId} {a : V} {r : List V} {H : List Blk} {Q : V → List Blk → Prop} (h : ACalls P f (a :: .p (.is [] 0) :: r) H Q) : ACalls P f (a :: .p .nilSlice :: r) H Q := by
  intro w I ρ us hi hus
  refine h w I ρ us hi ?_
  obtain ⟨u, us', rfl, h1, u2, us2, rfl, h2, h3⟩ := hus
  have h2' : u2 = .slice none 0 0 := h2
  exact ⟨u, _, rfl, h1, u2, us2, rfl, .inl ⟨⟨none, 0, h2'⟩, rfl⟩, h3⟩
theorem coats_pos {p : Pnt} (hp : Ok p) : 1 ≤ coats p := by
  have h1 := sumD_mono p.bs (i := 0) (k := p.bs.length) (by have := hp.n; omega)
  have h2 := hp.some _ (cot_mem (show 0 < p.bs.length by have := hp.n; omega))
  unfold coats
  omega
theorem best_ok (p : Pnt) (hb : p.bs.length ≤ 8) (hbd : ∀ b ∈ p.bs, b.dry.length ≤ 14) : Pure Try.prog 18 [pntV p] (bestV (bestR p)) := by
  refine Pure.start (N := 22) Try.func18 rfl rfl (Nat.le_of_ble_eq_true rfl) ?_
  refine AWp.seq ?_
  refine AWp.region ?_
  refine AList.c 1 rfl rfl rfl (OpJ.boxImm rfl rfl rfl) ?_
  refine AList.c 2 rfl rfl rfl (OpJ.allocOwn rfl zr26 rfl) ?_
  refine AList.c 3 rfl rfl rfl (OpJ.allocOwn rfl zr3 rfl) ?_
  refine AList.c 4 rfl rfl rfl (OpJ.assign rfl rfl) ?_
  refine AList.nil ?_
  refine AWp.seq ?_
  refine AWp.seq ?_
  refine AWp.region ?_
  refine AList.c 7 rfl rfl rfl (OpJ.load (v := .p (pntV p)) rfl rfl ty24 rfl) ?_
  refine AList.c 8 rfl rfl rfl (OpJ.callP (isPaint_ok p hb hbd) rfl rfl rfl rfl rf27) ?_
  refine AList.c 9 rfl rfl rfl (OpJ.not_ rfl rfl) ?_
  refine AList.nil ?_
  refine AWp.cond _ rfl (fun hc0 => ?_) (fun hc0 => ?_)
  · skip
    have hf : pntB p = false := by simpa using hc0
    have e : bestR p = (none, 1) := if_pos hf
    rw [e]
    refine AWp.seq ?_
    refine AWp.region ?_
    refine AList.c0 rfl rfl (OpJ.store rfl rfl rfl rfl rfl ty26 rfl rfl) ?_
    refine AList.c0 rfl rfl (OpJ.store rfl rfl rfl rfl rfl ty3 rfl rfl) ?_
    refine AList.c 4 rfl rfl rfl (OpJ.assign rfl rfl) ?_
    refine AList.nil ?_
    refine AWp.ret ?_
    exact Fin.manyE (xs := [.nilSlice, .int .i64 0, .int .i64 1]) rfl (⟨_, _, rfl, ⟨_, _, _, rfl, ty26, rfl⟩, ⟨_, _, rfl, ⟨_, _, _, rfl, ty3, rfl⟩, ⟨_, _, rfl, rfl, rfl⟩⟩⟩) rfl rfl
  · skip
    have hT : pntB p = true := by simpa using hc0
    have hp := pnt_ok hT
    have hok : okS (bstF p (coats p) shp0 [] none) := bstF_ok _ _ _ _ okN (by have := coats_pos hp; show 0 < 0 + coats p; omega)
    refine AWp.skip ?_
    refine AWp.seq ?_
    refine AWp.region ?_
    refine AList.c 10 rfl rfl rfl (OpJ.load (v := .p (pntV p)) rfl rfl ty24 rfl) ?_
    refine AList.c 11 rfl rfl rfl (OpJ.callP (coatsOf_ok p (big14 (by omega)) (sums_ok hb hbd)) rfl rfl rfl rfl rf33) ?_
    refine AList.c 5 rfl rfl rfl (OpJ.allocOwn rfl zr3 rfl) ?_
    refine AList.c0 rfl rfl (OpJ.store (H' := [.cells [.p (.nilSlice)] 26, .cells [.p (.int .i64 (0))] 3, .cells [.p (.int .i64 ((coats p : Nat) : Int))] 3]) rfl rfl rfl rfl rfl ty3 rfl rfl) ?_
    refine AList.nil ?_
    refine AWp.seq ?_
    refine AWp.region ?_
    refine AList.c 6 rfl rfl rfl (OpJ.allocOwn rfl zr84 rfl) ?_
    refine AList.nil ?_
    refine AWp.seq ?_
    refine AWp.region ?_
    refine AList.c 12 rfl rfl rfl (OpJ.makeFunc rfl rfl rfl) ?_
    refine AList.c0 rfl rfl (OpJ.store (H' := [.cells [.p (.nilSlice)] 26, .cells [.p (.int .i64 (0))] 3, .cells [.p (.int .i64 ((coats p : Nat) : Int))] 3, .cells [.func (.func 40) [] (capB p)] 84]) rfl rfl rfl rfl rfl ty84 rfl rfl) ?_
    refine AList.nil ?_
    refine AWp.seq ?_
    refine AWp.region ?_
    refine AList.c 13 rfl rfl rfl (OpJ.load (v := .func (.func 40) [] (capB p)) rfl rfl ty84 rfl) ?_
    refine AList.c 14 rfl rfl rfl (OpJ.load (v := .p (pntV p)) rfl rfl ty24 rfl) ?_
    refine AList.c 15 rfl rfl rfl (OpJ.buildR (v := .p (.agg (shpL p shp0))) rfl bd66 rfl rfl rfl) ?_
    refine AList.c 16 rfl rfl rfl (OpJ.boxOwn rfl rfl rfl) ?_
    refine AList.callX 17 (nil_arg (on_all hp (coats_pos hp) hp.all (coats p) shp0 [] (Nat.zero_add _) shp0_B none okN)) rfl rfl rfl rfl rfl rfl rfl rf40 (fun v H2 hQ2 => ?_)
    subst hQ2
    refine AList.nil ?_
    refine AWp.seq ?_
    refine AWp.seq ?_
    refine AWp.region ?_
    refine AList.c 18 rfl rfl rfl (OpJ.load (v := .p (ordV (bstF p (coats p) shp0 [] none))) rfl rfl ty26 rfl) ?_
    refine AList.c 19 rfl rfl rfl (OpJ.eqNilQ rfl rfl rfl slz26 (nilQ_ord hok)) ?_
    refine AList.nil ?_
    refine AWp.cond _ rfl (fun hc1 => ?_) (fun hc1 => ?_)
    · skip
      have e : bestR p = (none, 4) := (if_neg (by rw [hT]; decide)).trans (if_pos hc1)
      rw [e]
      refine AWp.seq ?_
      refine AWp.region ?_
      refine AList.c0 rfl rfl (OpJ.store rfl rfl rfl rfl rfl ty26 rfl rfl) ?_
      refine AList.c0 rfl rfl (OpJ.store rfl rfl rfl rfl rfl ty3 rfl rfl) ?_
      refine AList.c 4 rfl rfl rfl (OpJ.assign rfl rfl) ?_
      refine AList.nil ?_
      refine AWp.ret ?_
      exact Fin.manyE (xs := [.nilSlice, .int .i64 0, .int .i64 4]) rfl (⟨_, _, rfl, ⟨_, _, _, rfl, ty26, rfl⟩, ⟨_, _, rfl, ⟨_, _, _, rfl, ty3, rfl⟩, ⟨_, _, rfl, rfl, rfl⟩⟩⟩) rfl rfl
    · skip
      have e : bestR p = ((bstF p (coats p) shp0 [] none), 0) := (if_neg (by rw [hT]; decide)).trans (if_neg (by show ¬ Option.isNone _ = true; rw [show Option.isNone (bstF p (coats p) shp0 [] none) = false from hc1]; decide))
      rw [e]
      obtain ⟨x, hx⟩ : ∃ x, (bstF p (coats p) shp0 [] none) = some x := by
        have h := hc1
        cases hr : (bstF p (coats p) shp0 [] none) with
        | none => rw [hr] at h; cases h
        | some x => exact ⟨x, rfl⟩
      rw [hx]
      refine AWp.skip ?_
      refine AWp.seq ?_
      refine AWp.norm [0, 1] [(2, _), (3, _)] [.cells [.p (ordV (some x))] 26, .cells [.p (.int .i64 (hrV (some x)))] 3] rfl (by repeat (first | exact Sub.nil | refine Sub.cons rfl ?_)) rfl ?_
      refine AWp.regionDrawG 3 0 [0, 1] [([0], false), ([1], false), ([0], true)] mixed (by kernel_rfl) (by decide) (by kernel_rfl) rfl rfl ?_
      refine AQG.cons 20 rfl rfl rfl (fun _ => (OpJ.load (v := .p (ordV (some x))) rfl rfl ty26 rfl)) rfl ?_
      refine AQG.cons 21 rfl rfl rfl (fun _ => (OpJ.load (v := .p (.int .i64 (hrV (some x)))) rfl rfl ty3 rfl)) rfl ?_
      refine AQG.put (blk := .cells [.p (ordV (some x))] 26) (v := .top) 0 rfl rfl rfl rfl (fun _ => (OpJ.store rfl rfl rfl rfl rfl ty26 rfl rfl)) rfl rfl ?_
      refine AQG.nil ?_
      refine AList.c0 rfl rfl (OpJ.store (H' := [.cells [.p (ordV (some x))] 26, .cells [.p (.int .i64 (hrV (some x)))] 3]) rfl rfl rfl rfl rfl ty3 rfl rfl) ?_
      refine AList.c 4 rfl rfl rfl (OpJ.assign rfl rfl) ?_
      refine AList.nil ?_
      refine AWp.ret ?_
      exact Fin.manyE (xs := [ordV (some x), .int .i64 (hrV (some x)), .int .i64 0]) rfl (⟨_, _, rfl, ⟨_, _, _, rfl, ty26, rfl⟩, ⟨_, _, rfl, ⟨_, _, _, rfl, ty3, rfl⟩, ⟨_, _, rfl, rfl, rfl⟩⟩⟩) rfl rfl
end Go.Proofs.Ytibgdkaipleajaa
end

section
set_option linter.unusedVariables false
set_option maxRecDepth 100000
set_option maxHeartbeats 4000000
set_option linter.unusedSimpArgs false
namespace Go.Proofs.Ytibgdkaipleajaa
open Go.AF
theorem ints_ok (a b : List Int) (ha : a.length ≤ bigN) (hb : b.length ≤ bigN) : Pure Try.prog 17 [intsV a, intsV b] (.bool (decide (a = b))) := by
  unfold bigN at ha hb
  refine Pure.start (N := 26) Try.func17 rfl rfl (Nat.le_of_ble_eq_true rfl) ?_
  refine AWp.seq ?_
  refine AWp.region ?_
  refine AList.c 4 rfl rfl rfl (OpJ.assign rfl rfl) ?_
  refine AList.nil ?_
  refine AWp.seq ?_
  refine AWp.seq ?_
  refine AWp.region ?_
  refine AList.c 6 rfl rfl rfl (OpJ.move rfl rfl) ?_
  refine AList.c 7 rfl rfl rfl (OpJ.lenSlice rfl rfl sl26 rfl) ?_
  refine AList.c 8 rfl rfl rfl (OpJ.move rfl rfl) ?_
  refine AList.c 9 rfl rfl rfl (OpJ.lenSlice rfl rfl sl26 rfl) ?_
  refine AList.c 10 rfl rfl rfl (OpJ.neq rfl rfl rfl) ?_
  refine AList.nil ?_
  refine AWp.cond _ rfl (fun hc0 => ?_) (fun hc0 => ?_)
  · skip
    refine AWp.seq ?_
    refine AWp.region ?_
    refine AList.c 4 rfl rfl rfl (OpJ.assign rfl rfl) ?_
    refine AList.nil ?_
    refine AWp.ret ?_
    refine Fin.oneE rfl rfl ?_
    rw [decide_eq_false (p := a = b) (fun h => by subst h; simp at hc0)]
  · skip
    have hl : a.length = b.length := by simp at hc0; omega
    refine AWp.skip ?_
    refine AWp.seq ?_
    refine AWp.seq ?_
    refine AWp.region ?_
    refine AList.c 5 rfl rfl rfl (OpJ.assign rfl rfl) ?_
    refine AList.nil ?_
    refine AWp.block ?_
    refine AWp.loopKL [0, 1] (fun g => [(5, .p (.int .i64 ((g : Nat) : Int)))]) (fun g => g ≤ a.length ∧ ∀ j, j < g → nt a j = nt b j) (fun g => a.length - g) 0 ⟨Nat.zero_le _, fun j hj => absurd hj (by omega)⟩ (Sub.cons rfl (Sub.nil)) (fun i hg => ?_)
    obtain ⟨hg1, hg2⟩ := hg
    refine AWp.seq ?_
    refine AWp.seq ?_
    refine AWp.region ?_
    refine AList.c 11 rfl rfl rfl (OpJ.move rfl rfl) ?_
    refine AList.c 12 rfl rfl rfl (OpJ.move rfl rfl) ?_
    refine AList.c 13 rfl rfl rfl (OpJ.lenSlice rfl rfl sl26 rfl) ?_
    refine AList.c 14 rfl rfl rfl (OpJ.lss rfl rfl rfl) ?_
    refine AList.nil ?_
    refine AWp.cond _ rfl (fun hc1 => ?_) (fun hc1 => ?_)
    · skip
      have hk0 : i < a.length := by have h := of_decide_eq_true hc1; omega
      refine AWp.skip ?_
      refine AWp.seq ?_
      refine AWp.block ?_
      refine AWp.seq ?_
      refine AWp.regionDraw 9 mixed (by kernel_rfl) (by decide) ?_
      refine AQuiet.cons 17 rfl rfl rfl (OpJ.move rfl rfl) ?_
      refine AQuiet.cons 18 rfl rfl rfl (OpJ.move rfl rfl) ?_
      refine AQuiet.cons 19 rfl rfl rfl (OpJ.indexG (g := nt a) nt_get rfl rfl rfl sl26 el26 rfl (fun _ => rfl) (by decide) hk0) ?_
      refine AQuiet.cons 20 rfl rfl rfl (OpJ.load rfl rfl ty3 rfl) ?_
      refine AQuiet.cons 21 rfl rfl rfl (OpJ.move rfl rfl) ?_
      refine AQuiet.cons 22 rfl rfl rfl (OpJ.move rfl rfl) ?_
      refine AQuiet.cons 23 rfl rfl rfl (OpJ.indexG (g := nt b) nt_get rfl rfl rfl sl26 el26 rfl (fun _ => rfl) (by decide) (by omega)) ?_
      refine AQuiet.cons 24 rfl rfl rfl (OpJ.load rfl rfl ty3 rfl) ?_
      refine AQuiet.cons 25 rfl rfl rfl (OpJ.neq rfl rfl rfl) ?_
      refine AQuiet.nil ?_
      refine AList.nil ?_
      refine AWp.cond _ rfl (fun hc2 => ?_) (fun hc2 => ?_)
      · skip
        refine AWp.seq ?_
        refine AWp.region ?_
        refine AList.c 4 rfl rfl rfl (OpJ.assign rfl rfl) ?_
        refine AList.nil ?_
        refine AWp.ret ?_
        refine Fin.oneE rfl rfl ?_
        rw [decide_eq_false (p := a = b) (fun h => by subst h; simp at hc2)]
      · skip
        have hst : nt a i = nt b i := by simpa using hc2
        refine AWp.skip ?_
        refine AWp.region ?_
        refine AList.c 15 rfl rfl rfl (OpJ.move rfl rfl) ?_
        refine AList.c 16 rfl rfl rfl (OpJ.add rfl rfl rfl (i64ok ?_)) ?_
        · omega
        refine AList.c 5 rfl rfl rfl (OpJ.assign rfl rfl) ?_
        refine AList.nil ?_
        refine ⟨i + 1, ?_, ?_, ?_⟩
        · refine ⟨by omega, fun j hj => ?_⟩
          rcases Nat.lt_succ_iff_lt_or_eq.1 hj with h1 | rfl
          · exact hg2 j h1
          · exact hst
        · omega
        exact To.done [] rfl (by repeat (first | exact Sub.nil | refine Sub.cons rfl ?_)) rfl
    · skip
      obtain rfl : i = a.length := by have h := of_decide_eq_false hc1; omega
      refine AWp.exit ?_
      refine AWp.seq ?_
      refine AWp.region ?_
      refine AList.c 4 rfl rfl rfl (OpJ.assign rfl rfl) ?_
      refine AList.nil ?_
      refine AWp.ret ?_
      refine Fin.oneE rfl rfl ?_
      rw [decide_eq_true (p := a = b) (nt_ext hl hg2)]
theorem span_ok (a b : Int) : Pure Try.prog 26 [.int .i64 a, .int .i64 b] (.agg [.int .i64 a, .int .i64 b]) := by
  refine Pure.start (N := 8) Try.func26 rfl rfl (Nat.le_of_ble_eq_true rfl) ?_
  refine AWp.seq ?_
  refine AWp.region ?_
  refine AList.c 4 rfl rfl rfl (OpJ.allocOwn rfl zr35 rfl) ?_
  refine AList.nil ?_
  refine AWp.seq ?_
  refine AWp.region ?_
  refine AList.c 5 rfl rfl rfl (OpJ.move rfl rfl) ?_
  refine AList.c 6 rfl rfl rfl (OpJ.move rfl rfl) ?_
  refine AList.c 7 rfl rfl rfl (OpJ.build rfl bd35 rfl rfl) ?_
  refine AList.c0 rfl rfl (OpJ.store rfl rfl rfl rfl rfl ty35 rfl rfl) ?_
  refine AList.nil ?_
  refine AWp.ret ?_
  exact Fin.oneE rfl ⟨_, _, _, rfl, ty35, rfl⟩ rfl
theorem sample_ok  : Pure Try.prog 25 [] (pntV (PS 1)) := by
  refine Pure.start (N := 10) Try.func25 rfl rfl (Nat.le_of_ble_eq_true rfl) ?_
  refine AWp.seq ?_
  refine AWp.region ?_
  refine AList.c 0 rfl rfl rfl (OpJ.allocOwn rfl zr24 rfl) ?_
  refine AList.nil ?_
  refine AWp.seq ?_
  refine AWp.region ?_
  refine AList.c 1 rfl rfl rfl (OpJ.callP (span_ok _ _) rfl rfl rfl rfl rf26) ?_
  refine AList.c 2 rfl rfl rfl (OpJ.callP (span_ok _ _) rfl rfl rfl rfl rf26) ?_
  refine AList.c 3 rfl rfl rfl (OpJ.buildImm rfl slz50 (by decide) rfl rfl rfl) ?_
  refine AList.c 4 rfl rfl rfl (OpJ.build rfl bd52 rfl rfl) ?_
  refine AList.c 5 rfl rfl rfl (OpJ.callP (span_ok _ _) rfl rfl rfl rfl rf26) ?_
  refine AList.c 6 rfl rfl rfl (OpJ.buildImm rfl slz50 (by decide) rfl rfl rfl) ?_
  refine AList.c 7 rfl rfl rfl (OpJ.build rfl bd52 rfl rfl) ?_
  refine AList.c 8 rfl rfl rfl (OpJ.buildImm rfl slz22 (by decide) rfl rfl rfl) ?_
  refine AList.c 9 rfl rfl rfl (OpJ.build rfl bd24 rfl rfl) ?_
  refine AList.c0 rfl rfl (OpJ.store rfl rfl rfl rfl rfl ty24 rfl rfl) ?_
  refine AList.nil ?_
  refine AWp.ret ?_
  exact Fin.oneE rfl ⟨_, _, _, rfl, ty24, rfl⟩ rfl
theorem awp1 : Pure Try.prog 13 [pntV (PS 1), intsV [0, 1, 0]] (.tuple [intsV [0, 6, 14], .int .i64 3, .int .i64 0]) := by
  have h := times_ok (PS 1) [0, 1, 0] (by decide) (by decide) (by decide)
  rw [ex_times] at h
  exact h
theorem awp2 : Pure Try.prog 15 [pntV (PS 1), intsV [0, 1, 0], .int .i64 15] (.tuple [.agg [.int .i64 0, .int .i64 1], .int .i64 0]) := by
  have h := wet_ok (PS 1) [0, 1, 0] 15 (by decide) (by decide) (by decide)
  rw [ex_wet] at h
  exact h
theorem awp3 : Pure Try.prog 11 [pntV (PS 1), dpsV [⟨0, 0⟩, ⟨1, 2⟩]] (.tuple [.int .i64 1, .int .i64 10]) := by
  have h := check_ok (PS 1) [⟨0, 0⟩, ⟨1, 2⟩] (by decide) (by decide) (by decide)
  rw [ex_chk] at h
  exact h
theorem awp4 : Pure Try.prog 18 [pntV (PS 1)] (.tuple [intsV [0, 1, 0], .int .i64 21, .int .i64 0]) := by
  have h := best_ok (PS 1) (by decide) (by decide)
  rw [ex_best] at h
  exact h
theorem awp5 : Pure Try.prog 18 [pntV (PS 2)] (.tuple [ordV (bestR (PS 2)).1, .int .i64 15, .int .i64 0]) := by
  have h := best_ok (PS 2) (by decide) (by decide)
  obtain ⟨e1, e2⟩ := Prod.mk.inj ex_best2
  unfold bestV at h
  rwa [e1, e2] at h
theorem awake_ok  : Pure Try.prog 10 [] (.bool true) := by
  refine Pure.start (N := 99) Try.func10 rfl rfl (Nat.le_of_ble_eq_true rfl) ?_
  refine AWp.seq ?_
  refine AWp.region ?_
  refine AList.c 0 rfl rfl rfl (OpJ.assign rfl rfl) ?_
  refine AList.nil ?_
  refine AWp.seq ?_
  refine AWp.region ?_
  refine AList.c 15 rfl rfl rfl (OpJ.callP (sample_ok) rfl rfl rfl rfl rf25) ?_
  refine AList.c 1 rfl rfl rfl (OpJ.allocOwn rfl zr24 rfl) ?_
  refine AList.c0 rfl rfl (OpJ.store (H' := [.cells ((pntC (PS 1)).map .p) 24]) rfl rfl rfl rfl rfl ty24 rfl rfl) ?_
  refine AList.nil ?_
  refine AWp.seq ?_
  refine AWp.region ?_
  refine AList.c 17 rfl rfl rfl (OpJ.load (v := .p (pntV (PS 1))) rfl rfl ty24 rfl) ?_
  refine AList.c 18 rfl rfl rfl (OpJ.buildImm rfl slz26 (by decide) rfl rfl rfl) ?_
  refine AList.c 19 rfl rfl rfl (OpJ.callP (awp1) rfl rfl rfl rfl rf13) ?_
  refine AList.c 16 rfl rfl rfl (OpJ.move rfl rfl) ?_
  refine AList.c 20 rfl rfl rfl (OpJ.extract rfl rfl rfl) ?_
  refine AList.c 21 rfl rfl rfl (OpJ.extract rfl rfl rfl) ?_
  refine AList.c 22 rfl rfl rfl (OpJ.extract rfl rfl rfl) ?_
  refine AList.c 2 rfl rfl rfl (OpJ.assign rfl rfl) ?_
  refine AList.c 3 rfl rfl rfl (OpJ.assign rfl rfl) ?_
  refine AList.c 4 rfl rfl rfl (OpJ.assign rfl rfl) ?_
  refine AList.nil ?_
  refine AWp.seq ?_
  refine AWp.region ?_
  refine AList.c 24 rfl rfl rfl (OpJ.load (v := .p (pntV (PS 1))) rfl rfl ty24 rfl) ?_
  refine AList.c 25 rfl rfl rfl (OpJ.buildImm rfl slz26 (by decide) rfl rfl rfl) ?_
  refine AList.c 26 rfl rfl rfl (OpJ.callP (awp2) rfl rfl rfl rfl rf15) ?_
  refine AList.c 23 rfl rfl rfl (OpJ.move rfl rfl) ?_
  refine AList.c 27 rfl rfl rfl (OpJ.extract rfl rfl rfl) ?_
  refine AList.c 28 rfl rfl rfl (OpJ.extract rfl rfl rfl) ?_
  refine AList.c 5 rfl rfl rfl (OpJ.allocOwn rfl zr35 rfl) ?_
  refine AList.c0 rfl rfl (OpJ.store rfl rfl rfl rfl rfl ty35 rfl rfl) ?_
  refine AList.c 6 rfl rfl rfl (OpJ.assign rfl rfl) ?_
  refine AList.nil ?_
  refine AWp.seq ?_
  refine AWp.region ?_
  refine AList.c 30 rfl rfl rfl (OpJ.load (v := .p (pntV (PS 1))) rfl rfl ty24 rfl) ?_
  refine AList.c 31 rfl rfl rfl (OpJ.build rfl bd49 rfl rfl) ?_
  refine AList.c 32 rfl rfl rfl (OpJ.build rfl bd49 rfl rfl) ?_
  refine AList.c 33 rfl rfl rfl (OpJ.buildImm rfl slz25 (by decide) rfl rfl rfl) ?_
  refine AList.c 34 rfl rfl rfl (OpJ.callP (awp3) rfl rfl rfl rfl rf11) ?_
  refine AList.c 29 rfl rfl rfl (OpJ.move rfl rfl) ?_
  refine AList.c 35 rfl rfl rfl (OpJ.extract rfl rfl rfl) ?_
  refine AList.c 36 rfl rfl rfl (OpJ.extract rfl rfl rfl) ?_
  refine AList.c 7 rfl rfl rfl (OpJ.assign rfl rfl) ?_
  refine AList.c 8 rfl rfl rfl (OpJ.assign rfl rfl) ?_
  refine AList.nil ?_
  refine AWp.seq ?_
  refine AWp.region ?_
  refine AList.c 38 rfl rfl rfl (OpJ.load (v := .p (pntV (PS 1))) rfl rfl ty24 rfl) ?_
  refine AList.c 39 rfl rfl rfl (OpJ.callP (awp4) rfl rfl rfl rfl rf18) ?_
  refine AList.c 37 rfl rfl rfl (OpJ.move rfl rfl) ?_
  refine AList.c 40 rfl rfl rfl (OpJ.extract rfl rfl rfl) ?_
  refine AList.c 41 rfl rfl rfl (OpJ.extract rfl rfl rfl) ?_
  refine AList.c 42 rfl rfl rfl (OpJ.extract rfl rfl rfl) ?_
  refine AList.c 9 rfl rfl rfl (OpJ.assign rfl rfl) ?_
  refine AList.c 10 rfl rfl rfl (OpJ.assign rfl rfl) ?_
  refine AList.c 11 rfl rfl rfl (OpJ.assign rfl rfl) ?_
  refine AList.nil ?_
  refine AWp.seq ?_
  refine AWp.region ?_
  refine AList.c 43 rfl rfl rfl (OpJ.fieldAddr rfl rfl fd24_1 rfl) ?_
  refine AList.c0 rfl rfl (OpJ.store (H' := [.cells ((pntC (PS 2)).map .p) 24, .cells [.p (.int .i64 0), .p (.int .i64 1)] 35]) rfl rfl rfl rfl rfl ty3 rfl rfl) ?_
  refine AList.nil ?_
  refine AWp.seq ?_
  refine AWp.region ?_
  refine AList.c 45 rfl rfl rfl (OpJ.load (v := .p (pntV (PS 2))) rfl rfl ty24 rfl) ?_
  refine AList.c 46 rfl rfl rfl (OpJ.callP (awp5) rfl rfl rfl rfl rf18) ?_
  refine AList.c 44 rfl rfl rfl (OpJ.move rfl rfl) ?_
  refine AList.c 47 rfl rfl rfl (OpJ.extract rfl rfl rfl) ?_
  refine AList.c 48 rfl rfl rfl (OpJ.extract rfl rfl rfl) ?_
  refine AList.c 49 rfl rfl rfl (OpJ.extract rfl rfl rfl) ?_
  refine AList.c 12 rfl rfl rfl (OpJ.assign rfl rfl) ?_
  refine AList.c 13 rfl rfl rfl (OpJ.assign rfl rfl) ?_
  refine AList.c 14 rfl rfl rfl (OpJ.assign rfl rfl) ?_
  refine AList.nil ?_
  refine AWp.seq ?_
  refine AWp.regionDraw 50 mixed (by kernel_rfl) (by decide) ?_
  refine AQuiet.cons 50 rfl rfl rfl (OpJ.move rfl rfl) ?_
  refine AQuiet.cons 51 rfl rfl rfl (OpJ.buildImm rfl slz26 (by decide) rfl rfl rfl) ?_
  refine AQuiet.cons 52 rfl rfl rfl (OpJ.callP (ints_ok [0, 6, 14] [0, 6, 14] (by decide) (by decide)) rfl rfl rfl rfl rf17) ?_
  refine AQuiet.cons 53 rfl rfl rfl (OpJ.move rfl rfl) ?_
  refine AQuiet.guard 54 53 rfl rfl rfl rfl rfl rfl rfl [(3, _)] (fun h => And.intro (.inl rfl) (trivial)) (fun h => (OpJ.move rfl rfl)) ?_
  refine AQuiet.guard 55 53 rfl rfl rfl rfl rfl rfl rfl [(54, _)] (fun h => And.intro (.inr ⟨_, rfl, h⟩) (trivial)) (fun h => (OpJ.eql rfl rfl rfl)) ?_
  refine AQuiet.cons 56 rfl rfl rfl (OpJ.and_ rfl rfl rfl ?_) ?_
  · first | (intro h; rw [h]; rfl) | (intro h; simp_all)
  refine AQuiet.cons 57 rfl rfl rfl (OpJ.move rfl rfl) ?_
  refine AQuiet.guard 58 57 rfl rfl rfl rfl rfl rfl rfl [(4, _)] (fun h => And.intro (.inl rfl) (trivial)) (fun h => (OpJ.move rfl rfl)) ?_
  refine AQuiet.guard 59 57 rfl rfl rfl rfl rfl rfl rfl [(58, _)] (fun h => And.intro (.inr ⟨_, rfl, h⟩) (trivial)) (fun h => (OpJ.eql rfl rfl rfl)) ?_
  refine AQuiet.cons 60 rfl rfl rfl (OpJ.and_ rfl rfl rfl ?_) ?_
  · first | (intro h; rw [h]; rfl) | (intro h; simp_all)
  refine AQuiet.cons 61 rfl rfl rfl (OpJ.move rfl rfl) ?_
  refine AQuiet.guard 62 61 rfl rfl rfl rfl rfl rfl rfl [(5, _)] (fun h => And.intro (.inl rfl) (trivial)) (fun h => (OpJ.load (v := .p (.agg [.int .i64 0, .int .i64 1])) rfl rfl ty35 rfl)) ?_
  refine AQuiet.guard 63 61 rfl rfl rfl rfl rfl rfl rfl [] (fun h => trivial) (fun h => (OpJ.callP (span_ok _ _) rfl rfl rfl rfl rf26)) ?_
  refine AQuiet.guard 64 61 rfl rfl rfl rfl rfl rfl rfl [(62, _), (63, _)] (fun h => And.intro (.inr ⟨_, rfl, h⟩) (And.intro (.inr ⟨_, rfl, h⟩) (trivial))) (fun h => (OpJ.eqAgg (d := 8) rfl (.inl rfl) rfl rfl (by decide) eq35 ty35 rfl eg35 rfl)) ?_
  refine AQuiet.cons 65 rfl rfl rfl (OpJ.and_ rfl rfl rfl ?_) ?_
  · first | (intro h; rw [h]; rfl) | (intro h; simp_all)
  refine AQuiet.cons 66 rfl rfl rfl (OpJ.move rfl rfl) ?_
  refine AQuiet.guard 67 66 rfl rfl rfl rfl rfl rfl rfl [(6, _)] (fun h => And.intro (.inl rfl) (trivial)) (fun h => (OpJ.move rfl rfl)) ?_
  refine AQuiet.guard 68 66 rfl rfl rfl rfl rfl rfl rfl [(67, _)] (fun h => And.intro (.inr ⟨_, rfl, h⟩) (trivial)) (fun h => (OpJ.eql rfl rfl rfl)) ?_
  refine AQuiet.cons 69 rfl rfl rfl (OpJ.and_ rfl rfl rfl ?_) ?_
  · first | (intro h; rw [h]; rfl) | (intro h; simp_all)
  refine AQuiet.cons 70 rfl rfl rfl (OpJ.move rfl rfl) ?_
  refine AQuiet.guard 71 70 rfl rfl rfl rfl rfl rfl rfl [(7, _)] (fun h => And.intro (.inl rfl) (trivial)) (fun h => (OpJ.move rfl rfl)) ?_
  refine AQuiet.guard 72 70 rfl rfl rfl rfl rfl rfl rfl [(71, _)] (fun h => And.intro (.inr ⟨_, rfl, h⟩) (trivial)) (fun h => (OpJ.eql rfl rfl rfl)) ?_
  refine AQuiet.cons 73 rfl rfl rfl (OpJ.and_ rfl rfl rfl ?_) ?_
  · first | (intro h; rw [h]; rfl) | (intro h; simp_all)
  refine AQuiet.cons 74 rfl rfl rfl (OpJ.move rfl rfl) ?_
  refine AQuiet.guard 75 74 rfl rfl rfl rfl rfl rfl rfl [(8, _)] (fun h => And.intro (.inl rfl) (trivial)) (fun h => (OpJ.move rfl rfl)) ?_
  refine AQuiet.guard 76 74 rfl rfl rfl rfl rfl rfl rfl [(75, _)] (fun h => And.intro (.inr ⟨_, rfl, h⟩) (trivial)) (fun h => (OpJ.eql rfl rfl rfl)) ?_
  refine AQuiet.cons 77 rfl rfl rfl (OpJ.and_ rfl rfl rfl ?_) ?_
  · first | (intro h; rw [h]; rfl) | (intro h; simp_all)
  refine AQuiet.cons 78 rfl rfl rfl (OpJ.move rfl rfl) ?_
  refine AQuiet.guard 79 78 rfl rfl rfl rfl rfl rfl rfl [(9, _)] (fun h => And.intro (.inl rfl) (trivial)) (fun h => (OpJ.move rfl rfl)) ?_
  refine AQuiet.guard 80 78 rfl rfl rfl rfl rfl rfl rfl [] (fun h => trivial) (fun h => (OpJ.buildImm rfl slz26 (by decide) rfl rfl rfl)) ?_
  refine AQuiet.guard 81 78 rfl rfl rfl rfl rfl rfl rfl [(79, _), (80, _)] (fun h => And.intro (.inr ⟨_, rfl, h⟩) (And.intro (.inr ⟨_, rfl, h⟩) (trivial))) (fun h => (OpJ.callP (ints_ok [0, 1, 0] [0, 1, 0] (by decide) (by decide)) rfl rfl rfl rfl rf17)) ?_
  refine AQuiet.cons 82 rfl rfl rfl (OpJ.and_ rfl rfl rfl ?_) ?_
  · first | (intro h; rw [h]; rfl) | (intro h; simp_all)
  refine AQuiet.cons 83 rfl rfl rfl (OpJ.move rfl rfl) ?_
  refine AQuiet.guard 84 83 rfl rfl rfl rfl rfl rfl rfl [(10, _)] (fun h => And.intro (.inl rfl) (trivial)) (fun h => (OpJ.move rfl rfl)) ?_
  refine AQuiet.guard 85 83 rfl rfl rfl rfl rfl rfl rfl [(84, _)] (fun h => And.intro (.inr ⟨_, rfl, h⟩) (trivial)) (fun h => (OpJ.eql rfl rfl rfl)) ?_
  refine AQuiet.cons 86 rfl rfl rfl (OpJ.and_ rfl rfl rfl ?_) ?_
  · first | (intro h; rw [h]; rfl) | (intro h; simp_all)
  refine AQuiet.cons 87 rfl rfl rfl (OpJ.move rfl rfl) ?_
  refine AQuiet.guard 88 87 rfl rfl rfl rfl rfl rfl rfl [(11, _)] (fun h => And.intro (.inl rfl) (trivial)) (fun h => (OpJ.move rfl rfl)) ?_
  refine AQuiet.guard 89 87 rfl rfl rfl rfl rfl rfl rfl [(88, _)] (fun h => And.intro (.inr ⟨_, rfl, h⟩) (trivial)) (fun h => (OpJ.eql rfl rfl rfl)) ?_
  refine AQuiet.cons 90 rfl rfl rfl (OpJ.and_ rfl rfl rfl ?_) ?_
  · first | (intro h; rw [h]; rfl) | (intro h; simp_all)
  refine AQuiet.cons 91 rfl rfl rfl (OpJ.move rfl rfl) ?_
  refine AQuiet.guard 92 91 rfl rfl rfl rfl rfl rfl rfl [(13, _)] (fun h => And.intro (.inl rfl) (trivial)) (fun h => (OpJ.move rfl rfl)) ?_
  refine AQuiet.guard 93 91 rfl rfl rfl rfl rfl rfl rfl [(92, _)] (fun h => And.intro (.inr ⟨_, rfl, h⟩) (trivial)) (fun h => (OpJ.eql rfl rfl rfl)) ?_
  refine AQuiet.cons 94 rfl rfl rfl (OpJ.and_ rfl rfl rfl ?_) ?_
  · first | (intro h; rw [h]; rfl) | (intro h; simp_all)
  refine AQuiet.cons 95 rfl rfl rfl (OpJ.move rfl rfl) ?_
  refine AQuiet.guard 96 95 rfl rfl rfl rfl rfl rfl rfl [(14, _)] (fun h => And.intro (.inl rfl) (trivial)) (fun h => (OpJ.move rfl rfl)) ?_
  refine AQuiet.guard 97 95 rfl rfl rfl rfl rfl rfl rfl [(96, _)] (fun h => And.intro (.inr ⟨_, rfl, h⟩) (trivial)) (fun h => (OpJ.eql rfl rfl rfl)) ?_
  refine AQuiet.cons 98 rfl rfl rfl (OpJ.and_ rfl rfl rfl ?_) ?_
  · first | (intro h; rw [h]; rfl) | (intro h; simp_all)
  refine AQuiet.cons 0 rfl rfl rfl (OpJ.assign rfl rfl) ?_
  refine AQuiet.nil ?_
  refine AList.nil ?_
  refine AWp.ret ?_
  refine Fin.oneE rfl rfl ?_
  rfl
theorem large_ok (p : Pnt) (n : Int) (hb : p.bs.length ≤ bigN) : Pure Try.prog 9 [pntV p, .int .i64 n] (.bool (lrgB p n)) := by
  unfold bigN at hb
  refine Pure.start (N := 44) Try.func9 rfl rfl (Nat.le_of_ble_eq_true rfl) ?_
  refine AWp.seq ?_
  refine AWp.region ?_
  refine AList.c 2 rfl rfl rfl (OpJ.boxImm rfl rfl rfl) ?_
  refine AList.c 4 rfl rfl rfl (OpJ.assign rfl rfl) ?_
  refine AList.nil ?_
  refine AWp.seq ?_
  refine AWp.region ?_
  refine AList.c 5 rfl rfl rfl (OpJ.assign rfl rfl) ?_
  refine AList.nil ?_
  refine AWp.seq ?_
  refine AWp.seq ?_
  refine AWp.region ?_
  refine AList.c 6 rfl rfl rfl (OpJ.assign rfl rfl) ?_
  refine AList.nil ?_
  refine AWp.block ?_
  refine AWp.loopKL [1, 2, 31, 32, 33, 34, 35, 36, 37, 38, 39, 40, 41, 42, 43] (fun g => [(6, .p (.int .i64 ((g : Nat) : Int))), (5, .p (.int .i64 (wS p.bs g)))]) (fun g => g ≤ p.bs.length ∧ ∀ j, j < g → (cot p.bs j).dry.length ≤ 14) (fun g => p.bs.length - g) 0 ⟨Nat.zero_le _, fun j hj => absurd hj (by omega)⟩ (Sub.cons rfl (Sub.cons rfl (Sub.nil))) (fun i hg => ?_)
  obtain ⟨hg1, hg2⟩ := hg
  refine AWp.seq ?_
  refine AWp.seq ?_
  refine AWp.region ?_
  refine AList.c 7 rfl rfl rfl (OpJ.move rfl rfl) ?_
  refine AList.c 8 rfl rfl rfl (OpJ.fieldAddr rfl rfl fd24_2 rfl) ?_
  refine AList.c 9 rfl rfl rfl (OpJ.load (v := .p (cotsV p.bs)) rfl rfl ty22 rfl) ?_
  refine AList.c 10 rfl rfl rfl (OpJ.lenSlice rfl rfl sl22 rfl) ?_
  refine AList.c 11 rfl rfl rfl (OpJ.lss rfl rfl rfl) ?_
  refine AList.nil ?_
  refine AWp.cond _ rfl (fun hc0 => ?_) (fun hc0 => ?_)
  · skip
    have hk0 : i < p.bs.length := by have h := of_decide_eq_true hc0; omega
    refine AWp.skip ?_
    refine AWp.seq ?_
    refine AWp.block ?_
    refine AWp.seq ?_
    refine AWp.seq ?_
    refine AWp.region ?_
    refine AList.c 14 rfl rfl rfl (OpJ.fieldAddr rfl rfl fd24_2 rfl) ?_
    refine AList.c 15 rfl rfl rfl (OpJ.load (v := .p (cotsV p.bs)) rfl rfl ty22 rfl) ?_
    refine AList.c 16 rfl rfl rfl (OpJ.move rfl rfl) ?_
    refine AList.c 17 rfl rfl rfl (OpJ.indexG (g := cot p.bs) cot_get rfl rfl rfl sl22 el22 rfl (fun _ => rfl) (by decide) hk0) ?_
    refine AList.c 18 rfl rfl rfl (OpJ.fieldAddr rfl rfl fd52_0 rfl) ?_
    refine AList.c 19 rfl rfl rfl (OpJ.load (v := .p (spnsV (cot p.bs i).dry)) rfl rfl ty50 rfl) ?_
    refine AList.c 20 rfl rfl rfl (OpJ.lenSlice rfl rfl sl50 rfl) ?_
    refine AList.c 21 rfl rfl rfl (OpJ.gtr rfl rfl rfl) ?_
    refine AList.nil ?_
    refine AWp.cond _ rfl (fun hc1 => ?_) (fun hc1 => ?_)
    · skip
      have ha : p.bs.any (fun b => decide ((b.dry.length : Int) > 14)) = true := List.any_eq_true.2 ⟨_, cot_mem hk0, hc1⟩
      refine AWp.seq ?_
      refine AWp.region ?_
      refine AList.c 4 rfl rfl rfl (OpJ.assign rfl rfl) ?_
      refine AList.nil ?_
      refine AWp.ret ?_
      refine Fin.oneE rfl rfl ?_
      unfold lrgB
      rw [ha]; rfl
    · skip
      have hst : (cot p.bs i).dry.length ≤ 14 := by have h := of_decide_eq_false hc1; omega
      refine AWp.skip ?_
      refine AWp.region ?_
      refine AList.c 22 rfl rfl rfl (OpJ.move rfl rfl) ?_
      refine AList.c 23 rfl rfl rfl (OpJ.fieldAddr rfl rfl fd24_2 rfl) ?_
      refine AList.c 24 rfl rfl rfl (OpJ.load (v := .p (cotsV p.bs)) rfl rfl ty22 rfl) ?_
      refine AList.c 25 rfl rfl rfl (OpJ.move rfl rfl) ?_
      refine AList.c 26 rfl rfl rfl (OpJ.indexG (g := cot p.bs) cot_get rfl rfl rfl sl22 el22 rfl (fun _ => rfl) (by decide) hk0) ?_
      refine AList.c 27 rfl rfl rfl (OpJ.fieldAddr rfl rfl fd52_0 rfl) ?_
      refine AList.c 28 rfl rfl rfl (OpJ.load (v := .p (spnsV (cot p.bs i).dry)) rfl rfl ty50 rfl) ?_
      refine AList.c 29 rfl rfl rfl (OpJ.lenSlice rfl rfl sl50 rfl) ?_
      refine AList.c 30 rfl rfl rfl (OpJ.add (m := wS p.bs (i + 1)) rfl rfl rfl ?_) ?_
      · rfl
      refine AList.c 5 rfl rfl rfl (OpJ.assign rfl rfl) ?_
      refine AList.nil ?_
      refine AWp.region ?_
      refine AList.c 12 rfl rfl rfl (OpJ.move rfl rfl) ?_
      refine AList.c 13 rfl rfl rfl (OpJ.add rfl rfl rfl (i64ok ?_)) ?_
      · omega
      refine AList.c 6 rfl rfl rfl (OpJ.assign rfl rfl) ?_
      refine AList.nil ?_
      refine ⟨i + 1, ?_, ?_, ?_⟩
      · refine ⟨by omega, fun j hj => ?_⟩
        rcases Nat.lt_succ_iff_lt_or_eq.1 hj with h1 | rfl
        · exact hg2 j h1
        · exact hst
      · omega
      exact To.done [] rfl (by repeat (first | exact Sub.nil | refine Sub.cons rfl ?_)) rfl
  · skip
    obtain rfl : i = p.bs.length := by have h := of_decide_eq_false hc0; omega
    refine AWp.exit ?_
    refine AWp.seq ?_
    refine AWp.region ?_
    refine AList.c 31 rfl rfl rfl (OpJ.move rfl rfl) ?_
    refine AList.c 32 rfl rfl rfl (OpJ.move rfl rfl) ?_
    refine AList.c 33 rfl rfl rfl (OpJ.gtr rfl rfl rfl) ?_
    refine AList.c 34 rfl rfl rfl (OpJ.move rfl rfl) ?_
    refine AList.g 35 34 rfl rfl rfl rfl rfl rfl rfl [(5, _)] (fun h => And.intro (.inl rfl) (trivial)) (fun h => (OpJ.move rfl rfl)) ?_
    refine AList.g 36 34 rfl rfl rfl rfl rfl rfl rfl [(35, _)] (fun h => And.intro (.inr ⟨_, rfl, h⟩) (trivial)) (fun h => (OpJ.leq rfl rfl rfl)) ?_
    refine AList.c 37 rfl rfl rfl (OpJ.and_ rfl rfl rfl ?_) ?_
    · first | (intro h; rw [h]; rfl) | (intro h; simp_all)
    refine AList.c 38 rfl rfl rfl (OpJ.move rfl rfl) ?_
    refine AList.g 39 38 rfl rfl rfl rfl rfl rfl rfl [(2, _)] (fun h => And.intro (.inl rfl) (trivial)) (fun h => (OpJ.fieldAddr rfl rfl fd24_2 rfl)) ?_
    refine AList.g 40 38 rfl rfl rfl rfl rfl rfl rfl [(39, _)] (fun h => And.intro (.inr ⟨_, rfl, h⟩) (trivial)) (fun h => (OpJ.load (v := .p (cotsV p.bs)) rfl rfl ty22 rfl)) ?_
    refine AList.g 41 38 rfl rfl rfl rfl rfl rfl rfl [(40, _)] (fun h => And.intro (.inr ⟨_, rfl, h⟩) (trivial)) (fun h => (OpJ.lenSlice rfl rfl sl22 rfl)) ?_
    refine AList.g 42 38 rfl rfl rfl rfl rfl rfl rfl [(41, _)] (fun h => And.intro (.inr ⟨_, rfl, h⟩) (trivial)) (fun h => (OpJ.gtr rfl rfl rfl)) ?_
    refine AList.c 43 rfl rfl rfl (OpJ.or_ rfl rfl rfl ?_) ?_
    · first | (intro h; rw [h]; rfl) | (intro h; simp_all)
    refine AList.c 4 rfl rfl rfl (OpJ.assign rfl rfl) ?_
    refine AList.nil ?_
    refine AWp.ret ?_
    refine Fin.oneE rfl rfl ?_
    unfold lrgB
    rw [any_no hg2]; rfl
end Go.Proofs.Ytibgdkaipleajaa
end
