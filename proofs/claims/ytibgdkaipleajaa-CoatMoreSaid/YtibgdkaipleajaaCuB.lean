/-
  The next dip of a batch.
  The times of an order.
  What is wrong with a plan.
  Who can be wet.
-/
import Derived.Test.YtibgdkaipleajaaCuA
import Derived.Test.YtibgdkaipleajaaCuP
section
set_option linter.unusedVariables false
set_option maxRecDepth 100000
set_option maxHeartbeats 4000000
set_option linter.unusedSimpArgs false
namespace Go.Proofs.Ytibgdkaipleajaa
open Go.AF
theorem isFull_ok (p : Pnt) (hp : Ok p) (S : Shp) (b : Nat) (t : Int) (hb : b < p.bs.length) (h0 : 0 ≤ t) (h1 : t ≤ 1073741824) : ACalls Try.prog 52 [.ptr 0 0, .p (.agg [.int .i64 ((b : Nat) : Int), .int .i64 t])] [.cells (List.map V.p (shpL p S)) 66] fun v H' => v = .p (.bool (isFullB p S b t)) ∧ H' = [.cells (List.map V.p (shpL p S)) 66] := by
  have hn4 := hp.n
  have hd := hp.dip
  have hll : (hangL p S (b : Int) (t + p.dip)).length ≤ 4 := by have := hangF_len S (b : Int) (t + p.dip) p.bs.length; show (hangF S (b : Int) (t + p.dip) p.bs.length).length ≤ 4; omega
  refine ACalls.start (N := 28) Try.func52 rfl rfl (Nat.le_of_ble_eq_true rfl) ?_
  refine AWp.seq ?_
  refine AWp.region ?_
  refine AList.c 3 rfl rfl rfl (OpJ.boxImm rfl rfl rfl) ?_
  refine AList.c 4 rfl rfl rfl (OpJ.assign rfl rfl) ?_
  refine AList.nil ?_
  refine AWp.seq ?_
  refine AWp.region ?_
  refine AList.c 5 rfl rfl rfl (OpJ.allocOwn rfl zr3 rfl) ?_
  refine AList.c0 rfl rfl (OpJ.store rfl rfl rfl rfl rfl ty3 rfl rfl) ?_
  refine AList.nil ?_
  refine AWp.seq ?_
  refine AWp.seq ?_
  refine AWp.regionDraw 11 mixed (by kernel_rfl) (by decide) ?_
  refine AQuiet.cons 6 rfl rfl rfl (OpJ.move rfl rfl) ?_
  refine AQuiet.cons 7 rfl rfl rfl (OpJ.fieldAddr rfl rfl fd49_0 rfl) ?_
  refine AQuiet.cons 8 rfl rfl rfl (OpJ.load (v := .p (.int .i64 ((b : Nat) : Int))) rfl rfl ty3 rfl) ?_
  refine AQuiet.cons 9 rfl rfl rfl (OpJ.fieldAddr rfl rfl fd49_1 rfl) ?_
  refine AQuiet.cons 10 rfl rfl rfl (OpJ.load (v := .p (.int .i64 t)) rfl rfl ty3 rfl) ?_
  refine AQuiet.cons 11 rfl rfl rfl (OpJ.move rfl rfl) ?_
  refine AQuiet.cons 12 rfl rfl rfl (OpJ.nilCheck rfl rfl) ?_
  refine AQuiet.cons 13 rfl rfl rfl (OpJ.fieldAddr rfl rfl fd66_0 rfl) ?_
  refine AQuiet.cons 14 rfl rfl rfl (OpJ.fieldAddr rfl rfl fd24_0 rfl) ?_
  refine AQuiet.cons 15 rfl rfl rfl (OpJ.loadCell (k := 0) (v := (.p (.int .i64 p.dip))) rfl rfl ty3 rfl rfl rfl) ?_
  refine AQuiet.cons 16 rfl rfl rfl (OpJ.add rfl rfl rfl (i64ok ?_)) ?_
  · omega
  refine AQuiet.nil ?_
  refine AList.c 17 rfl rfl rfl (OpJ.callOwn rfl rfl rfl rfl rf60 (hanging_ok _ _ _ _)) ?_
  refine AList.nil ?_
  refine AWp.block ?_
  refine AWp.rangeFuncR 3 3 rfl (fun _ => rfl) rf63 (RrH p S) (hang_seq p hp S (b : Int) (t + p.dip)) (Nat.le_refl 3) (Nat.le_of_ble_eq_true rfl) (Nat.le_of_ble_eq_true rfl) (fun _ h => by cases h) (fun x hx => by unfold hangX at hx; simp at hx; obtain ⟨j, _, rfl⟩ := hx; rfl) rfl (fun k h => h = [.cells (List.map V.p (shpL p S)) 66, .cells [.p (.int .i64 ((k : Nat) : Int))] 3, .cells [.ptr 0 0] 61]) (fun c h => False) (fun _ _ h => by subst h; exact ⟨rfl, fun _ => ⟨rfl, rfl⟩⟩) (fun _ _ h => h.elim) rfl ?_ ?_ ?_
  · skip
    intro lx tmps k h x hJ hx
    subst hJ
    have hk : k < (hangL p S (b : Int) (t + p.dip)).length := by have := (List.getElem?_eq_some_iff.1 hx).1; rwa [hangX_len] at this
    obtain ⟨q, hq, rfl⟩ := hangX_get hx
    refine AWp.skip ?_
    refine ⟨rfl, rfl, ?_⟩
    refine AWp.block ?_
    refine AWp.region ?_
    refine AList.c 19 rfl rfl rfl (OpJ.load rfl rfl ty3 rfl) ?_
    refine AList.c 20 rfl rfl rfl (OpJ.add (m := ((k + 1 : Nat) : Int)) rfl rfl rfl ((i64ok ?_).trans ?_)) ?_
    · omega
    · omega
    refine AList.c0 rfl rfl (OpJ.store rfl rfl rfl rfl rfl ty3 rfl rfl) ?_
    refine AList.nil ?_
    exact ⟨_, rfl, To.sub Sub.nil⟩
  · skip
    intro h hJ
    subst hJ
    rw [hangX_len]
    refine AWp.seq ?_
    refine AWp.regionDraw 8 mixed (by kernel_rfl) (by decide) ?_
    refine AQuiet.cons 21 rfl rfl rfl (OpJ.load (v := .p (.int .i64 (((hangL p S (b : Int) (t + p.dip)).length : Nat) : Int))) rfl rfl ty3 rfl) ?_
    refine AQuiet.cons 22 rfl rfl rfl (OpJ.move rfl rfl) ?_
    refine AQuiet.cons 23 rfl rfl rfl (OpJ.nilCheck rfl rfl) ?_
    refine AQuiet.cons 24 rfl rfl rfl (OpJ.fieldAddr rfl rfl fd66_0 rfl) ?_
    refine AQuiet.cons 25 rfl rfl rfl (OpJ.fieldAddr rfl rfl fd24_1 rfl) ?_
    refine AQuiet.cons 26 rfl rfl rfl (OpJ.loadCell (k := 1) (v := (.p (.int .i64 p.racks))) rfl rfl ty3 rfl rfl rfl) ?_
    refine AQuiet.cons 27 rfl rfl rfl (OpJ.geq rfl rfl rfl) ?_
    refine AQuiet.cons 4 rfl rfl rfl (OpJ.assign rfl rfl) ?_
    refine AQuiet.nil ?_
    refine AList.nil ?_
    refine AWp.norm [0] [(4, _)] [.cells (List.map V.p (shpL p S)) 66] rfl (by repeat (first | exact Sub.nil | refine Sub.cons rfl ?_)) (by show [Blk.cells (renL _ (List.map V.p _)) _] = _; rw [renL_pure]) ?_
    refine AWp.ret ?_
    exact ⟨.inr rfl, _, resV.one rfl rfl, rfl, rfl⟩
  · skip
    intro c h hx
    exact hx.elim
theorem latest_ok (a b : Int) : Pure Try.prog 61 [.int .i64 a, intsV [b]] (.int .i64 (max a b)) := by
  refine Pure.start (N := 18) Try.func61 rfl rfl (Nat.le_of_ble_eq_true rfl) ?_
  refine AWp.seq ?_
  refine AWp.region ?_
  refine AList.c 4 rfl rfl rfl (OpJ.assign rfl rfl) ?_
  refine AList.nil ?_
  refine AWp.seq ?_
  refine AWp.seq ?_
  refine AWp.region ?_
  refine AList.c 7 rfl rfl rfl (OpJ.move rfl rfl) ?_
  refine AList.c 8 rfl rfl rfl (OpJ.lenSlice rfl rfl sl26 rfl) ?_
  refine AList.c 9 rfl rfl rfl (OpJ.move rfl rfl) ?_
  refine AList.nil ?_
  refine AWp.block ?_
  refine AWp.unroll 2 ?_
  refine ARounds.next ?_
  refine AWp.seq ?_
  refine AWp.region ?_
  refine AList.c 10 rfl rfl rfl (OpJ.lss rfl rfl rfl) ?_
  refine AList.nil ?_
  refine AWp.seq ?_
  refine AWp.condT rfl ?_
  refine AWp.skip ?_
  refine AWp.seq ?_
  refine AWp.block ?_
  refine AWp.seq ?_
  refine AWp.region ?_
  refine AList.c 11 rfl rfl rfl (OpJ.indexG (g := nt [b]) (k := 0) nt_get rfl rfl rfl sl26 el26 rfl (fun _ => rfl) (by decide) (Nat.le_refl 1)) ?_
  refine AList.c 12 rfl rfl rfl (OpJ.load (v := .p (.int .i64 b)) rfl rfl ty3 rfl) ?_
  refine AList.c 6 rfl rfl rfl (OpJ.assign rfl rfl) ?_
  refine AList.nil ?_
  refine AWp.region ?_
  refine AList.c 13 rfl rfl rfl (OpJ.move rfl rfl) ?_
  refine AList.c 14 rfl rfl rfl (OpJ.move rfl rfl) ?_
  refine AList.c 15 rfl rfl rfl (OpJ.max2 rfl rfl rfl) ?_
  refine AList.c 0 rfl rfl rfl (OpJ.assign rfl rfl) ?_
  refine AList.nil ?_
  refine AWp.region ?_
  refine AList.c 16 rfl rfl rfl (OpJ.add rfl rfl rfl (i64ok ?_)) ?_
  · decide
  refine AList.c 9 rfl rfl rfl (OpJ.move rfl rfl) ?_
  refine AList.nil ?_
  refine ARounds.next ?_
  refine AWp.seq ?_
  refine AWp.region ?_
  refine AList.c 10 rfl rfl rfl (OpJ.lss rfl rfl rfl) ?_
  refine AList.nil ?_
  refine AWp.seq ?_
  refine AWp.condF rfl ?_
  refine AWp.exit ?_
  refine AWp.seq ?_
  refine AWp.region ?_
  refine AList.c 17 rfl rfl rfl (OpJ.move rfl rfl) ?_
  refine AList.c 4 rfl rfl rfl (OpJ.assign rfl rfl) ?_
  refine AList.nil ?_
  refine AWp.ret ?_
  exact Fin.oneE rfl rfl rfl
theorem time_ok (p : Pnt) (hp : Ok p) (S : Shp) (b : Nat) (hb : b < p.bs.length) (M : Int) (hS : ShB M S) (hM : M ≤ 1073741824) : ACalls Try.prog 56 [.ptr 0 0, .p (.int .i64 ((b : Nat) : Int))] [.cells (List.map V.p (shpL p S)) 66] fun v H' => v = .p (.int .i64 (timeN p S b)) ∧ H' = [.cells (List.map V.p (shpL p S)) 66] := by
  have hn4 := hp.n
  have hd := hp.dip
  have hrk := hp.racks
  have hb4 : b < 4 := by omega
  have hhr := hour_B hS b
  have hll : (hangL p S (b : Int) (hourN S b + p.dip)).length ≤ 4 := by have := hangF_len S (b : Int) (hourN S b + p.dip) p.bs.length; show (hangF S (b : Int) (hourN S b + p.dip) p.bs.length).length ≤ 4; omega
  refine ACalls.start (N := 67) Try.func56 rfl rfl (Nat.le_of_ble_eq_true rfl) ?_
  refine AWp.seq ?_
  refine AWp.region ?_
  refine AList.c 4 rfl rfl rfl (OpJ.assign rfl rfl) ?_
  refine AList.nil ?_
  refine AWp.seq ?_
  refine AWp.region ?_
  refine AList.c 9 rfl rfl rfl (OpJ.move rfl rfl) ?_
  refine AList.c 10 rfl rfl rfl (OpJ.nilCheck rfl rfl) ?_
  refine AList.c 11 rfl rfl rfl (OpJ.fieldAddr rfl rfl fd66_2 rfl) ?_
  refine AList.c 12 rfl rfl rfl (OpJ.loadCell (k := 19) (v := (.p (.int .i64 S.fr))) rfl rfl ty3 rfl rfl rfl) ?_
  refine AList.c 5 rfl rfl rfl (OpJ.assign rfl rfl) ?_
  refine AList.nil ?_
  refine AWp.join (fun (g : Unit) => [(0, .ptr 0 0), (1, .p (.int .i64 ((b : Nat) : Int))), (5, .p (.int .i64 (hourN S b)))]) (fun (g : Unit) => [.cells (List.map V.p (shpL p S)) 66, .cells ((S.had b).cells.map .p) 63]) (fun (g : Unit) => True) ?_ (fun g hg => ?_)
  · skip
    refine AWp.seq ?_
    refine AWp.region ?_
    refine AList.c 13 rfl rfl rfl (OpJ.move rfl rfl) ?_
    refine AList.c 14 rfl rfl rfl (OpJ.move rfl rfl) ?_
    refine AList.c 15 rfl rfl rfl (OpJ.nilCheck rfl rfl) ?_
    refine AList.c 16 rfl rfl rfl (OpJ.fieldAddr rfl rfl fd66_1 rfl) ?_
    refine AList.c 17 rfl rfl rfl (OpJ.indexArrI rfl rfl rfl ar64 el64 hb4) ?_
    refine AList.c 18 rfl rfl rfl (OpJ.load (v := .p (.agg (S.had b).cells)) rfl rfl ty63 (shp_hung p S rfl hb4 (by omega))) ?_
    refine AList.c 6 rfl rfl rfl (OpJ.allocOwn rfl zr63 rfl) ?_
    refine AList.c0 rfl rfl (OpJ.store (H' := [.cells (List.map V.p (shpL p S)) 66, .cells ((S.had b).cells.map .p) 63]) rfl rfl rfl rfl rfl ty63 rfl rfl) ?_
    refine AList.nil ?_
    refine AWp.seq ?_
    refine AWp.region ?_
    refine AList.c 19 rfl rfl rfl (OpJ.fieldAddr rfl rfl fd63_0 rfl) ?_
    refine AList.c 20 rfl rfl rfl (OpJ.load (v := .p (.int .i64 ((S.had b).many : Int))) rfl rfl ty3 rfl) ?_
    refine AList.c 21 rfl rfl rfl (OpJ.gtr rfl rfl rfl) ?_
    refine AList.nil ?_
    refine AWp.cond _ rfl (fun hc0 => ?_) (fun hc0 => ?_)
    · skip
      have e : hourN S b = max S.fr (S.had b).surely := if_pos (of_decide_eq_true hc0)
      refine AWp.region ?_
      refine AList.c 22 rfl rfl rfl (OpJ.move rfl rfl) ?_
      refine AList.c 23 rfl rfl rfl (OpJ.fieldAddr rfl rfl fd63_3 rfl) ?_
      refine AList.c 24 rfl rfl rfl (OpJ.load (v := .p (.int .i64 (S.had b).surely)) rfl rfl ty3 rfl) ?_
      refine AList.c 25 rfl rfl rfl (OpJ.buildImm rfl slz26 (by decide) rfl rfl rfl) ?_
      refine AList.c 26 rfl rfl rfl (OpJ.callP (latest_ok _ _) rfl rfl rfl rfl rf61) ?_
      refine AList.c 5 rfl rfl rfl (OpJ.assign rfl rfl) ?_
      refine AList.nil ?_
      exact ⟨(), trivial, To.sub (Sub.cons rfl (Sub.cons rfl (Sub.cons (by rw [e]; rfl) Sub.nil)))⟩
    · skip
      have e : hourN S b = S.fr := if_neg (of_decide_eq_false hc0)
      refine AWp.skip ?_
      exact ⟨(), trivial, To.sub (Sub.cons rfl (Sub.cons rfl (Sub.cons (by rw [e]; rfl) Sub.nil)))⟩
  · skip
    refine AWp.seq ?_
    refine AWp.region ?_
    refine AList.c 27 rfl rfl rfl (OpJ.move rfl rfl) ?_
    refine AList.c 28 rfl rfl rfl (OpJ.move rfl rfl) ?_
    refine AList.c 29 rfl rfl rfl (OpJ.move rfl rfl) ?_
    refine AList.c 30 rfl rfl rfl (OpJ.move rfl rfl) ?_
    refine AList.c 31 rfl rfl rfl (OpJ.nilCheck rfl rfl) ?_
    refine AList.c 32 rfl rfl rfl (OpJ.fieldAddr rfl rfl fd66_0 rfl) ?_
    refine AList.c 33 rfl rfl rfl (OpJ.fieldAddr rfl rfl fd24_0 rfl) ?_
    refine AList.c 34 rfl rfl rfl (OpJ.loadCell (k := 0) (v := (.p (.int .i64 p.dip))) rfl rfl ty3 rfl rfl rfl) ?_
    refine AList.c 35 rfl rfl rfl (OpJ.add rfl rfl rfl (i64ok ?_)) ?_
    · omega
    refine AList.c 36 rfl rfl rfl (OpJ.callOwn rfl rfl rfl rfl rf60 (hanging_ok _ _ _ _)) ?_
    refine AList.c 37 rfl rfl rfl (OpJ.callOwn rfl rfl rfl rfl rf62 (sorted_ok p hp S (b : Int) (hourN S b + p.dip) (S.had b).cells 63)) ?_
    refine AList.c 7 rfl rfl rfl (OpJ.assign rfl rfl) ?_
    refine AList.nil ?_
    refine AWp.join (fun (g : Unit) => [(5, .p (.int .i64 (timeN p S b)))]) (fun (g : Unit) => [.cells (List.map V.p (shpL p S)) 66, .cells ((S.had b).cells.map .p) 63, .cells [.ptr 0 0] 61, .dead]) (fun (g : Unit) => True) ?_ (fun g hg => ?_)
    · skip
      refine AWp.seq ?_
      refine AWp.region ?_
      refine AList.c 38 rfl rfl rfl (OpJ.move rfl rfl) ?_
      refine AList.c 39 rfl rfl rfl (OpJ.lenSlice rfl rfl sl26 (show alen (.p (intsV (sortI (hangL p S (b : Int) (hourN S b + p.dip))))) = some (hangL p S (b : Int) (hourN S b + p.dip)).length from congrArg some (sortI_len _))) ?_
      refine AList.c 8 rfl rfl rfl (OpJ.assign rfl rfl) ?_
      refine AList.nil ?_
      refine AWp.seq ?_
      refine AWp.region ?_
      refine AList.c 40 rfl rfl rfl (OpJ.move rfl rfl) ?_
      refine AList.c 41 rfl rfl rfl (OpJ.move rfl rfl) ?_
      refine AList.c 42 rfl rfl rfl (OpJ.nilCheck rfl rfl) ?_
      refine AList.c 43 rfl rfl rfl (OpJ.fieldAddr rfl rfl fd66_0 rfl) ?_
      refine AList.c 44 rfl rfl rfl (OpJ.fieldAddr rfl rfl fd24_1 rfl) ?_
      refine AList.c 45 rfl rfl rfl (OpJ.loadCell (k := 1) (v := (.p (.int .i64 p.racks))) rfl rfl ty3 rfl rfl rfl) ?_
      refine AList.c 46 rfl rfl rfl (OpJ.geq rfl rfl rfl) ?_
      refine AList.nil ?_
      refine AWp.cond _ rfl (fun hc1 => ?_) (fun hc1 => ?_)
      · skip
        have hge : ((hangL p S (b : Int) (hourN S b + p.dip)).length : Int) ≥ p.racks := of_decide_eq_true hc1
        have e : timeN p S b = max (hourN S b) (nt (sortI (hangL p S (b : Int) (hourN S b + p.dip))) ((hangL p S (b : Int) (hourN S b + p.dip)).length - p.racks.toNat) - p.dip) := if_pos hge
        have hnb := nts_B hS (p := p) (but := (b : Int)) (hour := hourN S b + p.dip) (k := (hangL p S (b : Int) (hourN S b + p.dip)).length - p.racks.toNat) (by omega)
        refine AWp.regionDraw 20 mixed (by kernel_rfl) (by decide) ?_
        refine AQuiet.cons 47 rfl rfl rfl (OpJ.move rfl rfl) ?_
        refine AQuiet.cons 48 rfl rfl rfl (OpJ.move rfl rfl) ?_
        refine AQuiet.cons 49 rfl rfl rfl (OpJ.move rfl rfl) ?_
        refine AQuiet.cons 50 rfl rfl rfl (OpJ.move rfl rfl) ?_
        refine AQuiet.cons 51 rfl rfl rfl (OpJ.nilCheck rfl rfl) ?_
        refine AQuiet.cons 52 rfl rfl rfl (OpJ.fieldAddr rfl rfl fd66_0 rfl) ?_
        refine AQuiet.cons 53 rfl rfl rfl (OpJ.fieldAddr rfl rfl fd24_1 rfl) ?_
        refine AQuiet.cons 54 rfl rfl rfl (OpJ.loadCell (k := 1) (v := (.p (.int .i64 p.racks))) rfl rfl ty3 rfl rfl rfl) ?_
        refine AQuiet.cons 55 rfl rfl rfl (OpJ.sub_ (m := (((hangL p S (b : Int) (hourN S b + p.dip)).length - p.racks.toNat : Nat) : Int)) rfl rfl rfl ((i64ok ?_).trans ?_)) ?_
        · omega
        · omega
        refine AQuiet.cons 56 rfl rfl rfl (OpJ.indexG (g := nt (sortI (hangL p S (b : Int) (hourN S b + p.dip)))) nt_get rfl rfl rfl sl26 el26 rfl (fun _ => rfl) (by decide) (by rw [sortI_len]; omega)) ?_
        refine AQuiet.cons 57 rfl rfl rfl (OpJ.load (v := .p (.int .i64 (nt (sortI (hangL p S (b : Int) (hourN S b + p.dip))) ((hangL p S (b : Int) (hourN S b + p.dip)).length - p.racks.toNat)))) rfl rfl ty3 rfl) ?_
        refine AQuiet.cons 58 rfl rfl rfl (OpJ.move rfl rfl) ?_
        refine AQuiet.cons 59 rfl rfl rfl (OpJ.nilCheck rfl rfl) ?_
        refine AQuiet.cons 60 rfl rfl rfl (OpJ.fieldAddr rfl rfl fd66_0 rfl) ?_
        refine AQuiet.cons 61 rfl rfl rfl (OpJ.fieldAddr rfl rfl fd24_0 rfl) ?_
        refine AQuiet.cons 62 rfl rfl rfl (OpJ.loadCell (k := 0) (v := (.p (.int .i64 p.dip))) rfl rfl ty3 rfl rfl rfl) ?_
        refine AQuiet.cons 63 rfl rfl rfl (OpJ.sub_ rfl rfl rfl (i64ok ?_)) ?_
        · omega
        refine AQuiet.cons 64 rfl rfl rfl (OpJ.buildImm rfl slz26 (by decide) rfl rfl rfl) ?_
        refine AQuiet.cons 65 rfl rfl rfl (OpJ.callP (latest_ok _ _) rfl rfl rfl rfl rf61) ?_
        refine AQuiet.cons 5 rfl rfl rfl (OpJ.assign rfl rfl) ?_
        refine AQuiet.nil ?_
        refine AList.nil ?_
        exact ⟨(), trivial, To.sub (Sub.cons (by rw [e]; rfl) Sub.nil)⟩
      · skip
        have e : timeN p S b = hourN S b := if_neg (of_decide_eq_false hc1)
        refine AWp.skip ?_
        exact ⟨(), trivial, To.sub (Sub.cons (by rw [e]; rfl) Sub.nil)⟩
    · skip
      refine AWp.seq ?_
      refine AWp.region ?_
      refine AList.c 66 rfl rfl rfl (OpJ.move rfl rfl) ?_
      refine AList.c 4 rfl rfl rfl (OpJ.assign rfl rfl) ?_
      refine AList.nil ?_
      refine AWp.norm [0] [(4, _)] [.cells (List.map V.p (shpL p S)) 66] rfl (by repeat (first | exact Sub.nil | refine Sub.cons rfl ?_)) (by show [Blk.cells (renL _ (List.map V.p _)) _] = _; rw [renL_pure]) ?_
      refine AWp.ret ?_
      exact ⟨.inr rfl, _, resV.one rfl rfl, rfl, rfl⟩
theorem next_ok (p : Pnt) (hp : Ok p) (S : Shp) (b : Int) (M : Int) (hS : ShB M S) (hM : M ≤ 1073741824) : ACalls Try.prog 36 [.ptr 0 0, .p (.int .i64 b)] [.cells (List.map V.p (shpL p S)) 66] fun v H' => v = .p (.tuple [.int .i64 (nextN p S b).2.1, .int .i64 (nextN p S b).2.2]) ∧ H' = [.cells (List.map V.p (shpL p (nextN p S b).1)) 66] := by
  refine ACalls.start (N := 27) Try.func36 rfl rfl (Nat.le_of_ble_eq_true rfl) ?_
  refine AWp.seq ?_
  refine AWp.region ?_
  refine AList.c 4 rfl rfl rfl (OpJ.assign rfl rfl) ?_
  refine AList.c 5 rfl rfl rfl (OpJ.assign rfl rfl) ?_
  refine AList.nil ?_
  refine AWp.seq ?_
  refine AWp.seq ?_
  refine AWp.region ?_
  refine AList.c 8 rfl rfl rfl (OpJ.move rfl rfl) ?_
  refine AList.c 9 rfl rfl rfl (OpJ.move rfl rfl) ?_
  refine AList.c 10 rfl rfl rfl (OpJ.callOwn rfl rfl rfl rfl rf28 (may_ok p hp S b)) ?_
  refine AList.c 6 rfl rfl rfl (OpJ.assign rfl rfl) ?_
  refine AList.nil ?_
  refine AWp.seq ?_
  refine AWp.region ?_
  refine AList.c 11 rfl rfl rfl (OpJ.move rfl rfl) ?_
  refine AList.c 12 rfl rfl rfl (OpJ.neq rfl rfl rfl) ?_
  refine AList.nil ?_
  refine AWp.cond _ rfl (fun hc0 => ?_) (fun hc0 => ?_)
  · skip
    have hne : ¬ mayE p S b = 0 := by simpa using hc0
    have e : nextN p S b = (S, 0, mayE p S b) := if_pos hne
    rw [e]
    refine AWp.seq ?_
    refine AWp.region ?_
    refine AList.c 13 rfl rfl rfl (OpJ.move rfl rfl) ?_
    refine AList.c 4 rfl rfl rfl (OpJ.assign rfl rfl) ?_
    refine AList.c 5 rfl rfl rfl (OpJ.assign rfl rfl) ?_
    refine AList.nil ?_
    refine AWp.ret ?_
    exact ⟨.inr rfl, _, resV.many rfl (⟨_, _, rfl, rfl, ⟨_, _, rfl, rfl, rfl⟩⟩), rfl, rfl⟩
  · skip
    have he : mayE p S b = 0 := by simpa using hc0
    obtain ⟨b, rfl, hb, hm⟩ := may_0 he
    have htb := time_B hp hS b
    refine AWp.skip ?_
    refine AWp.seq ?_
    refine AWp.region ?_
    refine AList.c 14 rfl rfl rfl (OpJ.move rfl rfl) ?_
    refine AList.c 15 rfl rfl rfl (OpJ.move rfl rfl) ?_
    refine AList.c 16 rfl rfl rfl (OpJ.move rfl rfl) ?_
    refine AList.c 17 rfl rfl rfl (OpJ.callOwn rfl rfl rfl rfl rf56 (time_ok p hp S b hb M hS hM)) ?_
    refine AList.c 18 rfl rfl rfl (OpJ.buildR (v := .p (.agg [.int .i64 ((b : Nat) : Int), .int .i64 (timeN p S b)])) rfl bd49 rfl rfl rfl) ?_
    refine AList.c 7 rfl rfl rfl (OpJ.allocOwn rfl zr49 rfl) ?_
    refine AList.c0 rfl rfl (OpJ.store (H' := [.cells (List.map V.p (shpL p S)) 66, .cells ([.int .i64 ((b : Nat) : Int), .int .i64 (timeN p S b)].map .p) 49]) rfl rfl rfl rfl rfl ty49 rfl rfl) ?_
    refine AList.nil ?_
    refine AWp.seq ?_
    refine AWp.seq ?_
    refine AWp.freeze 1 rfl rfl ?_
    refine AWp.norm [0] [(0, _), (7, _)] [.cells (List.map V.p (shpL p S)) 66] rfl (by repeat (first | exact Sub.nil | refine Sub.cons rfl ?_)) (by show [Blk.cells (renL _ (List.map V.p _)) _] = _; rw [renL_pure]) ?_
    refine AWp.region ?_
    refine AList.c 19 rfl rfl rfl (OpJ.move rfl rfl) ?_
    refine AList.c 20 rfl rfl rfl (OpJ.load (v := .p (.agg [.int .i64 ((b : Nat) : Int), .int .i64 (timeN p S b)])) rfl rfl ty49 rfl) ?_
    refine AList.c 21 rfl rfl rfl (OpJ.callOwn rfl rfl rfl rfl rf51 (isLate_ok p hp S b (timeN p S b) hb M hS hM)) ?_
    refine AList.nil ?_
    refine AWp.cond _ rfl (fun hc1 => ?_) (fun hc1 => ?_)
    · skip
      have e : nextN p S (b : Int) = (S, 0, 11) := (if_neg (not_not_intro he)).trans (if_pos hc1)
      rw [e]
      refine AWp.seq ?_
      refine AWp.region ?_
      refine AList.c 4 rfl rfl rfl (OpJ.assign rfl rfl) ?_
      refine AList.c 5 rfl rfl rfl (OpJ.assign rfl rfl) ?_
      refine AList.nil ?_
      refine AWp.ret ?_
      exact ⟨.inr rfl, _, resV.many rfl (⟨_, _, rfl, rfl, ⟨_, _, rfl, rfl, rfl⟩⟩), rfl, rfl⟩
    · skip
      have hl : ¬ isLateB p S (b : Int) (timeN p S b) = true := by rw [hc1]; decide
      have e : nextN p S (b : Int) = (dipN p S b (timeN p S b), timeN p S b, 0) := (if_neg (not_not_intro he)).trans (if_neg hl)
      rw [e]
      refine AWp.skip ?_
      refine AWp.seq ?_
      refine AWp.region ?_
      refine AList.c 22 rfl rfl rfl (OpJ.move rfl rfl) ?_
      refine AList.c 23 rfl rfl rfl (OpJ.load (v := .p (.agg [.int .i64 ((b : Nat) : Int), .int .i64 (timeN p S b)])) rfl rfl ty49 rfl) ?_
      refine AList.callX 24 (dip_ok p hp S b (timeN p S b) hb hm M hS hM htb.1 (by omega)) rfl rfl rfl rfl rfl rfl rfl rf32 (fun v H2 hQ2 => ?_)
      subst hQ2
      refine AList.nil ?_
      refine AWp.seq ?_
      refine AWp.region ?_
      refine AList.c 25 rfl rfl rfl (OpJ.fieldAddr rfl rfl fd49_1 rfl) ?_
      refine AList.c 26 rfl rfl rfl (OpJ.load (v := .p (.int .i64 (timeN p S b))) rfl rfl ty3 rfl) ?_
      refine AList.c 4 rfl rfl rfl (OpJ.assign rfl rfl) ?_
      refine AList.c 5 rfl rfl rfl (OpJ.assign rfl rfl) ?_
      refine AList.nil ?_
      refine AWp.ret ?_
      exact ⟨.inr rfl, _, resV.many rfl (⟨_, _, rfl, rfl, ⟨_, _, rfl, rfl, rfl⟩⟩), rfl, rfl⟩
end Go.Proofs.Ytibgdkaipleajaa
end

section
set_option linter.unusedVariables false
set_option maxRecDepth 100000
set_option maxHeartbeats 4000000
set_option linter.unusedSimpArgs false
namespace Go.Proofs.Ytibgdkaipleajaa
open Go.AF
theorem times_ok (p : Pnt) (o : List Int) (hb : p.bs.length ≤ 8) (hbd : ∀ b ∈ p.bs, b.dry.length ≤ 14) (ho : o.length ≤ 1000) : Pure Try.prog 13 [pntV p, intsV o] (tmV (timesR p o)) := by
  refine Pure.start (N := 50) Try.func13 rfl rfl (Nat.le_of_ble_eq_true rfl) ?_
  refine AWp.seq ?_
  refine AWp.region ?_
  refine AList.c 2 rfl rfl rfl (OpJ.boxImm rfl rfl rfl) ?_
  refine AList.c 4 rfl rfl rfl (OpJ.assign rfl rfl) ?_
  refine AList.c 5 rfl rfl rfl (OpJ.assign rfl rfl) ?_
  refine AList.c 6 rfl rfl rfl (OpJ.assign rfl rfl) ?_
  refine AList.nil ?_
  refine AWp.seq ?_
  refine AWp.seq ?_
  refine AWp.region ?_
  refine AList.c 12 rfl rfl rfl (OpJ.load (v := .p (pntV p)) rfl rfl ty24 rfl) ?_
  refine AList.c 13 rfl rfl rfl (OpJ.callP (isPaint_ok p hb hbd) rfl rfl rfl rfl rf27) ?_
  refine AList.c 14 rfl rfl rfl (OpJ.not_ rfl rfl) ?_
  refine AList.nil ?_
  refine AWp.cond _ rfl (fun hc0 => ?_) (fun hc0 => ?_)
  · skip
    have hf : pntB p = false := by simpa using hc0
    rw [times_arg o hf]
    refine AWp.seq ?_
    refine AWp.region ?_
    refine AList.c 4 rfl rfl rfl (OpJ.assign rfl rfl) ?_
    refine AList.c 5 rfl rfl rfl (OpJ.assign rfl rfl) ?_
    refine AList.c 6 rfl rfl rfl (OpJ.assign rfl rfl) ?_
    refine AList.nil ?_
    refine AWp.ret ?_
    exact Fin.manyE (xs := [.nilSlice, .int .i64 0, .int .i64 1]) rfl (⟨_, _, rfl, rfl, ⟨_, _, rfl, rfl, ⟨_, _, rfl, rfl, rfl⟩⟩⟩) rfl rfl
  · skip
    have hT : pntB p = true := by simpa using hc0
    have hp := pnt_ok hT
    refine AWp.skip ?_
    refine AWp.seq ?_
    refine AWp.region ?_
    refine AList.c 15 rfl rfl rfl (OpJ.load rfl rfl ty24 rfl) ?_
    refine AList.c 16 rfl rfl rfl (OpJ.buildR (v := .p (.agg (shpL p shp0))) rfl bd66 rfl rfl rfl) ?_
    refine AList.c 17 rfl rfl rfl (OpJ.boxOwn rfl rfl rfl) ?_
    refine AList.c 7 rfl rfl rfl (OpJ.assign rfl rfl) ?_
    refine AList.nil ?_
    refine AWp.seq ?_
    refine AWp.seq ?_
    refine AWp.region ?_
    refine AList.c 18 rfl rfl rfl (OpJ.move rfl rfl) ?_
    refine AList.c 19 rfl rfl rfl (OpJ.lenSlice rfl rfl sl26 rfl) ?_
    refine AList.c 20 rfl rfl rfl (OpJ.move rfl rfl) ?_
    refine AList.nil ?_
    refine AWp.block ?_
    refine AWp.to To.pad ?_
    refine AWp.loopHL [1, 2, 7, 18, 19, 40, 41, 42, 43, 44, 45, 46, 47, 48, 49] (fun g => [(20, .p (.int .i64 ((g : Nat) : Int))), (4, accV 1 g)]) (fun g => [.cells (List.map V.p (shpL p (stN p o g))) 66, accB (((hrs p o g).flatMap i1).map .p) 3 g]) (fun g => g ≤ o.length ∧ ∀ j, j < g → errI p o j = 0) (fun g => o.length - g) 0 ⟨Nat.zero_le _, fun j hj => absurd hj (by omega)⟩ (To.sub (Sub.chk (Sub.cons rfl (Sub.cons rfl (Sub.nil))))) (fun i hg => ?_)
    obtain ⟨hg1, hg2⟩ := hg
    refine AWp.seq ?_
    refine AWp.region ?_
    refine AList.c 21 rfl rfl rfl (OpJ.lss rfl rfl rfl) ?_
    refine AList.nil ?_
    refine AWp.seq ?_
    refine AWp.cond _ rfl (fun hc1 => ?_) (fun hc1 => ?_)
    · skip
      have hk0 : i < o.length := by have h := of_decide_eq_true hc1; omega
      refine AWp.skip ?_
      refine AWp.seq ?_
      refine AWp.block ?_
      refine AWp.seq ?_
      refine AWp.region ?_
      refine AList.c 22 rfl rfl rfl (OpJ.move rfl rfl) ?_
      refine AList.c 23 rfl rfl rfl (OpJ.indexG (g := nt o) nt_get rfl rfl rfl sl26 el26 rfl (fun _ => rfl) (by decide) hk0) ?_
      refine AList.c 24 rfl rfl rfl (OpJ.load (v := .p (.int .i64 (nt o i))) rfl rfl ty3 rfl) ?_
      refine AList.c 8 rfl rfl rfl (OpJ.assign rfl rfl) ?_
      refine AList.c 9 rfl rfl rfl (OpJ.assign rfl rfl) ?_
      refine AList.nil ?_
      refine AWp.seq ?_
      refine AWp.region ?_
      refine AList.c 26 rfl rfl rfl (OpJ.move rfl rfl) ?_
      refine AList.c 27 rfl rfl rfl (OpJ.move rfl rfl) ?_
      refine AList.callXK 28 [0] (all := [.ptr 0 0, .p (.int .i64 (nt o i))]) (by show ACalls _ _ _ [Blk.cells (renL _ (List.map V.p _)) _] _; rw [renL_pure]; exact next_ok p hp (stN p o i) (nt o i) _ (stN_B hp o i) (by omega)) (fun v H2 h => by rw [h.2]; rfl) (by rfl) (by rfl) rfl rfl rfl rfl rfl rfl rfl rf36 (fun v H2 hQ2 => ?_)
      obtain ⟨rfl, rfl⟩ := hQ2
      refine AList.c 25 rfl rfl rfl (OpJ.move rfl rfl) ?_
      refine AList.c 29 rfl rfl rfl (OpJ.extract rfl rfl rfl) ?_
      refine AList.c 30 rfl rfl rfl (OpJ.extract rfl rfl rfl) ?_
      refine AList.c 10 rfl rfl rfl (OpJ.assign rfl rfl) ?_
      refine AList.c 11 rfl rfl rfl (OpJ.assign rfl rfl) ?_
      refine AList.nil ?_
      refine AWp.seq ?_
      refine AWp.seq ?_
      refine AWp.norm [0, 1] [(1, _), (2, _), (4, accV 1 i), (7, _), (8, _), (10, .p (.int .i64 (hrI p o i))), (11, .p (.int .i64 (errI p o i))), (18, _), (19, _), (20, _)] [.cells (List.map V.p (shpL p (stN p o (i + 1)))) 66, accB (((hrs p o i).flatMap i1).map .p) 3 i] rfl (Sub.cons rfl (Sub.cons rfl (Sub.cons (by rw [lk_renT]; show some (renV _ (accV 1 _)) = _; rw [accV_ren (σ := pl [0, 1]) (i := 1) (j := 1) rfl]) (Sub.cons rfl (Sub.cons rfl (Sub.cons rfl (Sub.cons rfl (Sub.cons rfl (Sub.cons rfl (Sub.cons rfl Sub.nil)))))))))) (by show [Blk.cells (renL _ (renL _ (List.map V.p _))) _, renB _ (accB (List.map V.p _) _ _)] = _; rw [renL_pure, renL_pure, accB_ren]; rfl) ?_
      refine AWp.region ?_
      refine AList.c 31 rfl rfl rfl (OpJ.move rfl rfl) ?_
      refine AList.c 32 rfl rfl rfl (OpJ.neq rfl rfl rfl) ?_
      refine AList.nil ?_
      refine AWp.cond _ rfl (fun hc2 => ?_) (fun hc2 => ?_)
      · skip
        have he : ¬ errI p o i = 0 := by simpa using hc2
        rw [times_err hT hk0 hg2 he]
        refine AWp.seq ?_
        refine AWp.region ?_
        refine AList.c 33 rfl rfl rfl (OpJ.move rfl rfl) ?_
        refine AList.c 34 rfl rfl rfl (OpJ.move rfl rfl) ?_
        refine AList.c 4 rfl rfl rfl (OpJ.assign rfl rfl) ?_
        refine AList.c 5 rfl rfl rfl (OpJ.assign rfl rfl) ?_
        refine AList.c 6 rfl rfl rfl (OpJ.assign rfl rfl) ?_
        refine AList.nil ?_
        refine AWp.ret ?_
        have e2 : tmL ([], (i : Int), errI p o i) = .nilSlice := if_neg he
        unfold tmV
        dsimp only
        rw [e2]
        exact Fin.manyE (xs := [.nilSlice, .int .i64 (i : Int), .int .i64 (errI p o i)]) rfl (⟨_, _, rfl, rfl, ⟨_, _, rfl, rfl, ⟨_, _, rfl, rfl, rfl⟩⟩⟩) rfl rfl
      · skip
        have he : errI p o i = 0 := by simpa using hc2
        refine AWp.skip ?_
        refine AWp.region ?_
        refine AList.c 35 rfl rfl rfl (OpJ.move rfl rfl) ?_
        refine AList.c 36 rfl rfl rfl (OpJ.move rfl rfl) ?_
        refine AList.c 37 rfl rfl rfl (OpJ.buildImm rfl slz26 (by decide) rfl rfl rfl) ?_
        refine AList.c 38 rfl rfl rfl (OpJ.appendAcc rfl rfl rfl slz26 sl26 rfl ?_ rfl (by decide) rfl by3 (by decide) ?_) ?_
        · rw [List.length_map, flat_len (c := 1) (fun _ => rfl), hrs_len]; rfl
        · omega
        refine AList.c 4 rfl rfl rfl (OpJ.assign rfl rfl) ?_
        refine AList.nil ?_
        refine AWp.region ?_
        refine AList.c 39 rfl rfl rfl (OpJ.add rfl rfl rfl (i64ok ?_)) ?_
        · omega
        refine AList.c 20 rfl rfl rfl (OpJ.move rfl rfl) ?_
        refine AList.nil ?_
        refine ⟨i + 1, ?_, ?_, ?_⟩
        · refine ⟨by omega, fun j hj => ?_⟩
          rcases Nat.lt_succ_iff_lt_or_eq.1 hj with h1 | rfl
          · exact hg2 j h1
          · exact he
        · omega
        refine To.done [0, 2] rfl (by repeat (first | exact Sub.nil | refine Sub.cons rfl ?_)) ?_
        show [Blk.cells (renL _ (List.map V.p _)) _, Blk.row (renL _ (_ ++ _)) _] = _
        rw [renL_app, renL_pure, renL_pure, hrs_S, List.flatMap_append, List.map_append]
        rfl
    · skip
      obtain rfl : i = o.length := by have h := of_decide_eq_false hc1; omega
      rw [times_end hT hg2]
      refine AWp.exit ?_
      refine AWp.seq ?_
      refine AWp.seq ?_
      refine AWp.region ?_
      refine AList.c 40 rfl rfl rfl (OpJ.move rfl rfl) ?_
      refine AList.c 41 rfl rfl rfl (OpJ.lenSlice rfl rfl sl26 rfl) ?_
      refine AList.c 42 rfl rfl rfl (OpJ.load (v := .p (pntV p)) rfl rfl ty24 rfl) ?_
      refine AList.c 43 rfl rfl rfl (OpJ.callP (coatsOf_ok p (big14 (by omega)) (sums_ok hb hbd)) rfl rfl rfl rfl rf33) ?_
      refine AList.c 44 rfl rfl rfl (OpJ.lss rfl rfl rfl) ?_
      refine AList.nil ?_
      refine AWp.cond _ rfl (fun hc3 => ?_) (fun hc3 => ?_)
      · skip
        rw [if_pos (of_decide_eq_true hc3)]
        refine AWp.seq ?_
        refine AWp.region ?_
        refine AList.c 45 rfl rfl rfl (OpJ.move rfl rfl) ?_
        refine AList.c 46 rfl rfl rfl (OpJ.lenSlice rfl rfl sl26 rfl) ?_
        refine AList.c 4 rfl rfl rfl (OpJ.assign rfl rfl) ?_
        refine AList.c 5 rfl rfl rfl (OpJ.assign rfl rfl) ?_
        refine AList.c 6 rfl rfl rfl (OpJ.assign rfl rfl) ?_
        refine AList.nil ?_
        refine AWp.ret ?_
        exact Fin.manyE (xs := [.nilSlice, .int .i64 (o.length : Int), .int .i64 4]) rfl (⟨_, _, rfl, rfl, ⟨_, _, rfl, rfl, ⟨_, _, rfl, rfl, rfl⟩⟩⟩) rfl rfl
      · skip
        rw [if_neg (of_decide_eq_false hc3)]
        refine AWp.skip ?_
        refine AWp.seq ?_
        refine AWp.region ?_
        refine AList.c 47 rfl rfl rfl (OpJ.move rfl rfl) ?_
        refine AList.c 48 rfl rfl rfl (OpJ.move rfl rfl) ?_
        refine AList.c 49 rfl rfl rfl (OpJ.lenSlice rfl rfl sl26 rfl) ?_
        refine AList.c 4 rfl rfl rfl (OpJ.assign rfl rfl) ?_
        refine AList.c 5 rfl rfl rfl (OpJ.assign rfl rfl) ?_
        refine AList.c 6 rfl rfl rfl (OpJ.assign rfl rfl) ?_
        refine AList.nil ?_
        refine AWp.to (To.accD 4 1 o.length (xs := (hrs p o o.length).flatMap i1) rfl rfl (fun h => by rw [List.eq_nil_of_length_eq_zero (show (hrs p o o.length).length = 0 by rw [hrs_len]; exact h)]; rfl)) ?_
        refine AWp.ret ?_
        exact Fin.manyE (xs := [.is ((hrs p o o.length).flatMap i1) o.length, .int .i64 (o.length : Int), .int .i64 0]) rfl (⟨_, _, rfl, rfl, ⟨_, _, rfl, rfl, ⟨_, _, rfl, rfl, rfl⟩⟩⟩) rfl (by unfold tmL; dsimp only; rw [if_pos rfl]; unfold intsV; rw [hrs_len])
end Go.Proofs.Ytibgdkaipleajaa
end

section
set_option linter.unusedVariables false
set_option maxRecDepth 100000
set_option maxHeartbeats 4000000
set_option linter.unusedSimpArgs false
namespace Go.Proofs.Ytibgdkaipleajaa
open Go.AF
theorem errors_ok  : Pure Try.prog 31 [] (mapP (PV.int .i64) (PV.int .i64) errM) := by
  refine Pure.start (N := 3) Try.func31 rfl rfl (Nat.le_of_ble_eq_true rfl) ?_
  refine AWp.seq ?_
  refine AWp.region ?_
  refine AList.c 0 rfl rfl rfl (OpJ.assign rfl rfl) ?_
  refine AList.nil ?_
  refine AWp.seq ?_
  refine AWp.region ?_
  refine AList.c 1 rfl rfl rfl (OpJ.makeMap (K := Int) (α := Int) (enc := PV.int .i64) (g := fun a => .p (PV.int .i64 a)) rfl) ?_
  refine AList.c0 rfl rfl (OpJ.mapUpdate (KeyOk.int .i64 .i64) (g := fun a => .p (PV.int .i64 a)) (.inr rfl) rfl rfl rfl rfl mp72) ?_
  refine AList.c0 rfl rfl (OpJ.mapUpdate (KeyOk.int .i64 .i64) (g := fun a => .p (PV.int .i64 a)) (.inr rfl) rfl rfl rfl rfl mp72) ?_
  refine AList.c0 rfl rfl (OpJ.mapUpdate (KeyOk.int .i64 .i64) (g := fun a => .p (PV.int .i64 a)) (.inr rfl) rfl rfl rfl rfl mp72) ?_
  refine AList.c0 rfl rfl (OpJ.mapUpdate (KeyOk.int .i64 .i64) (g := fun a => .p (PV.int .i64 a)) (.inr rfl) rfl rfl rfl rfl mp72) ?_
  refine AList.c 2 rfl rfl rfl (OpJ.move rfl rfl) ?_
  refine AList.c 0 rfl rfl rfl (OpJ.assign rfl rfl) ?_
  refine AList.nil ?_
  refine AWp.to (To.freezeMap 0 rfl) ?_
  refine AWp.ret ?_
  exact Fin.oneE rfl rfl rfl
theorem checks_ok  : Pure Try.prog 30 [] (.agg [.func (.func 49) [] [], .func (.func 50) [] [], .func (.func 51) [] [], .func (.func 52) [] []]) := by
  refine Pure.start (N := 2) Try.func30 rfl rfl (Nat.le_of_ble_eq_true rfl) ?_
  refine AWp.seq ?_
  refine AWp.region ?_
  refine AList.c 0 rfl rfl rfl (OpJ.allocOwn rfl zr70 rfl) ?_
  refine AList.nil ?_
  refine AWp.seq ?_
  refine AWp.region ?_
  refine AList.c 1 rfl rfl rfl (OpJ.build rfl bd70 rfl rfl) ?_
  refine AList.c0 rfl rfl (OpJ.store rfl rfl rfl rfl rfl ty70 rfl rfl) ?_
  refine AList.nil ?_
  refine AWp.ret ?_
  refine Fin.oneE rfl ⟨_, _, _, rfl, ty70, rfl⟩ ?_
  rfl
theorem check_ok (p : Pnt) (l : List Dp) (hb : p.bs.length ≤ 8) (hbd : ∀ b ∈ p.bs, b.dry.length ≤ 14) (hl : l.length ≤ 1000) : Pure Try.prog 11 [pntV p, dpsV l] (chkV (chkR p l)) := by
  refine Pure.start (N := 69) Try.func11 rfl rfl (Nat.le_of_ble_eq_true rfl) ?_
  refine AWp.seq ?_
  refine AWp.region ?_
  refine AList.c 2 rfl rfl rfl (OpJ.boxImm rfl rfl rfl) ?_
  refine AList.c 4 rfl rfl rfl (OpJ.assign rfl rfl) ?_
  refine AList.c 5 rfl rfl rfl (OpJ.assign rfl rfl) ?_
  refine AList.nil ?_
  refine AWp.seq ?_
  refine AWp.seq ?_
  refine AWp.region ?_
  refine AList.c 12 rfl rfl rfl (OpJ.load (v := .p (pntV p)) rfl rfl ty24 rfl) ?_
  refine AList.c 13 rfl rfl rfl (OpJ.callP (isPaint_ok p hb hbd) rfl rfl rfl rfl rf27) ?_
  refine AList.c 14 rfl rfl rfl (OpJ.not_ rfl rfl) ?_
  refine AList.nil ?_
  refine AWp.cond _ rfl (fun hc0 => ?_) (fun hc0 => ?_)
  · skip
    have hf : pntB p = false := by simpa using hc0
    rw [chk_arg l hf]
    refine AWp.seq ?_
    refine AWp.region ?_
    refine AList.c 4 rfl rfl rfl (OpJ.assign rfl rfl) ?_
    refine AList.c 5 rfl rfl rfl (OpJ.assign rfl rfl) ?_
    refine AList.nil ?_
    refine AWp.ret ?_
    exact Fin.manyE (xs := [.int .i64 0, .int .i64 1]) rfl (⟨_, _, rfl, rfl, ⟨_, _, rfl, rfl, rfl⟩⟩) rfl rfl
  · skip
    have hT : pntB p = true := by simpa using hc0
    have hp := pnt_ok hT
    refine AWp.skip ?_
    refine AWp.seq ?_
    refine AWp.region ?_
    refine AList.c 15 rfl rfl rfl (OpJ.load (v := .p (pntV p)) rfl rfl ty24 rfl) ?_
    refine AList.c 16 rfl rfl rfl (OpJ.buildR (v := .p (.agg (shpL p shp0))) rfl bd66 rfl rfl rfl) ?_
    refine AList.c 17 rfl rfl rfl (OpJ.boxOwn rfl rfl rfl) ?_
    refine AList.c 6 rfl rfl rfl (OpJ.assign rfl rfl) ?_
    refine AList.nil ?_
    refine AWp.seq ?_
    refine AWp.seq ?_
    refine AWp.region ?_
    refine AList.c 18 rfl rfl rfl (OpJ.move rfl rfl) ?_
    refine AList.c 19 rfl rfl rfl (OpJ.lenSlice rfl rfl sl25 rfl) ?_
    refine AList.c 20 rfl rfl rfl (OpJ.move rfl rfl) ?_
    refine AList.nil ?_
    refine AWp.block ?_
    refine AWp.loopHL [1, 2, 6, 18, 19, 60, 61, 62, 63, 64, 65, 66, 67, 68] (fun g => [(20, .p (.int .i64 ((g : Nat) : Int)))]) (fun g => [.cells (List.map V.p (shpL p (csN p l g))) 66]) (fun g => g ≤ l.length ∧ ∀ j, j < g → chkE p (csN p l j) (dpt l j) = 0) (fun g => l.length - g) 0 ⟨Nat.zero_le _, fun j hj => absurd hj (by omega)⟩ (To.sub (Sub.chk (Sub.cons rfl (Sub.nil)))) (fun i hg => ?_)
    obtain ⟨hg1, hg2⟩ := hg
    refine AWp.seq ?_
    refine AWp.region ?_
    refine AList.c 21 rfl rfl rfl (OpJ.lss rfl rfl rfl) ?_
    refine AList.nil ?_
    refine AWp.seq ?_
    refine AWp.cond _ rfl (fun hc1 => ?_) (fun hc1 => ?_)
    · skip
      have hk0 : i < l.length := by have h := of_decide_eq_true hc1; omega
      have hSB := csN_B hp l i
      refine AWp.skip ?_
      refine AWp.seq ?_
      refine AWp.block ?_
      refine AWp.seq ?_
      refine AWp.region ?_
      refine AList.c 22 rfl rfl rfl (OpJ.move rfl rfl) ?_
      refine AList.c 23 rfl rfl rfl (OpJ.indexG (g := dpt l) dpt_get rfl rfl rfl sl25 el25 rfl (fun _ => rfl) (by decide) hk0) ?_
      refine AList.c 24 rfl rfl rfl (OpJ.load (v := .p (.agg (dpt l i).cells)) rfl rfl ty49 rfl) ?_
      refine AList.c 8 rfl rfl rfl (OpJ.allocOwn rfl zr49 rfl) ?_
      refine AList.c 7 rfl rfl rfl (OpJ.assign rfl rfl) ?_
      refine AList.c0 rfl rfl (OpJ.store (H' := [.cells (List.map V.p (shpL p (csN p l i))) 66, .cells ((dpt l i).cells.map .p) 49]) rfl rfl rfl rfl rfl ty49 rfl rfl) ?_
      refine AList.nil ?_
      refine AWp.seq ?_
      refine AWp.seq ?_
      refine AWp.freeze 1 rfl rfl ?_
      refine AWp.norm [0] [(1, _), (2, _), (6, _), (7, _), (8, .p (.ip [.int .i64 (dpt l i).b, .int .i64 (dpt l i).h] 0)), (18, _), (19, _), (20, _)] [.cells (List.map V.p (shpL p (csN p l i))) 66] rfl (by repeat (first | exact Sub.nil | refine Sub.cons rfl ?_)) (by show [Blk.cells (renL _ (List.map V.p _)) _] = _; rw [renL_pure]) ?_
      refine AWp.region ?_
      refine AList.c 25 rfl rfl rfl (OpJ.move rfl rfl) ?_
      refine AList.c 26 rfl rfl rfl (OpJ.fieldAddr rfl rfl fd49_0 rfl) ?_
      refine AList.c 27 rfl rfl rfl (OpJ.load (v := .p (.int .i64 (dpt l i).b)) rfl rfl ty3 rfl) ?_
      refine AList.c 28 rfl rfl rfl (OpJ.callOwn rfl rfl rfl rfl rf28 (may_ok p hp (csN p l i) (dpt l i).b)) ?_
      refine AList.c 9 rfl rfl rfl (OpJ.assign rfl rfl) ?_
      refine AList.nil ?_
      refine AWp.seq ?_
      refine AWp.region ?_
      refine AList.c 29 rfl rfl rfl (OpJ.move rfl rfl) ?_
      refine AList.c 30 rfl rfl rfl (OpJ.eql rfl rfl rfl) ?_
      refine AList.c 31 rfl rfl rfl (OpJ.move rfl rfl) ?_
      refine AList.g 32 31 rfl rfl rfl rfl rfl rfl rfl [(8, _)] (fun h => And.intro (.inl rfl) (trivial)) (fun h => (OpJ.fieldAddr rfl rfl fd49_1 rfl)) ?_
      refine AList.g 33 31 rfl rfl rfl rfl rfl rfl rfl [(32, _)] (fun h => And.intro (.inr ⟨_, rfl, h⟩) (trivial)) (fun h => (OpJ.load (v := .p (.int .i64 (dpt l i).h)) rfl rfl ty3 rfl)) ?_
      refine AList.g 34 31 rfl rfl rfl rfl rfl rfl rfl [(33, _)] (fun h => And.intro (.inr ⟨_, rfl, h⟩) (trivial)) (fun h => (OpJ.callP (isHour_ok _) rfl rfl rfl rfl rf29)) ?_
      refine AList.g 35 31 rfl rfl rfl rfl rfl rfl rfl [(34, _)] (fun h => And.intro (.inr ⟨_, rfl, h⟩) (trivial)) (fun h => (OpJ.not_ rfl rfl)) ?_
      refine AList.c 36 rfl rfl rfl (OpJ.or_ rfl rfl rfl ?_) ?_
      · first | (intro h; rw [h]; rfl) | (intro h; simp_all)
      refine AList.nil ?_
      refine AWp.cond _ rfl (fun hc2 => ?_) (fun hc2 => ?_)
      · skip
        have ec : chkE p (csN p l i) (dpt l i) = 2 := if_pos hc2
        rw [chk_err hT hk0 hg2 (by rw [ec]; decide), ec]
        refine AWp.seq ?_
        refine AWp.region ?_
        refine AList.c 37 rfl rfl rfl (OpJ.move rfl rfl) ?_
        refine AList.c 4 rfl rfl rfl (OpJ.assign rfl rfl) ?_
        refine AList.c 5 rfl rfl rfl (OpJ.assign rfl rfl) ?_
        refine AList.nil ?_
        refine AWp.ret ?_
        exact Fin.manyE (xs := [.int .i64 (i : Int), .int .i64 2]) rfl (⟨_, _, rfl, rfl, ⟨_, _, rfl, rfl, rfl⟩⟩) rfl rfl
      · skip
        have hno : ¬ (decide (mayE p (csN p l i) (dpt l i).b = 2) || !inB (dpt l i).h 0 1048576) = true := by rw [show (decide (mayE p (csN p l i) (dpt l i).b = 2) || !inB (dpt l i).h 0 1048576) = false from hc2]; decide
        refine AWp.seq ?_
        refine AWp.region ?_
        refine AList.c 38 rfl rfl rfl (OpJ.move rfl rfl) ?_
        refine AList.c 39 rfl rfl rfl (OpJ.neq rfl rfl rfl) ?_
        refine AList.nil ?_
        refine AWp.cond _ rfl (fun hc3 => ?_) (fun hc3 => ?_)
        · skip
          have hne : ¬ mayE p (csN p l i) (dpt l i).b = 0 := by simpa using hc3
          have ec : chkE p (csN p l i) (dpt l i) = mayE p (csN p l i) (dpt l i).b := (if_neg hno).trans (if_pos hne)
          rw [chk_err hT hk0 hg2 (by rw [ec]; exact hne), ec]
          refine AWp.seq ?_
          refine AWp.region ?_
          refine AList.c 40 rfl rfl rfl (OpJ.move rfl rfl) ?_
          refine AList.c 41 rfl rfl rfl (OpJ.move rfl rfl) ?_
          refine AList.c 4 rfl rfl rfl (OpJ.assign rfl rfl) ?_
          refine AList.c 5 rfl rfl rfl (OpJ.assign rfl rfl) ?_
          refine AList.nil ?_
          refine AWp.ret ?_
          exact Fin.manyE (xs := [.int .i64 (i : Int), .int .i64 (mayE p (csN p l i) (dpt l i).b)]) rfl (⟨_, _, rfl, rfl, ⟨_, _, rfl, rfl, rfl⟩⟩) rfl rfl
        · skip
          have he : mayE p (csN p l i) (dpt l i).b = 0 := by simpa using hc3
          have hh : inB (dpt l i).h 0 1048576 = true := by
            simp only [Bool.or_eq_true, not_or, Bool.not_eq_true', Bool.not_eq_false] at hno
            exact hno.2
          have hh2 := hour_in hh
          have ec := chk_go he hh
          obtain ⟨b, hbx, hb, hm⟩ := may_0 he
          rw [hbx] at ec
          rw [hbx]
          refine AWp.skip ?_
          refine AWp.seq ?_
          refine AWp.seq ?_
          refine AWp.region ?_
          refine AList.c 42 rfl rfl rfl (OpJ.callP (checks_ok) rfl rfl rfl rfl rf30) ?_
          refine AList.c 43 rfl rfl rfl (OpJ.move rfl rfl) ?_
          refine AList.nil ?_
          refine AWp.block ?_
          refine AWp.unroll 5 ?_
          refine ARounds.next ?_
          refine AWp.seq ?_
          refine AWp.region ?_
          refine AList.c 44 rfl rfl rfl (OpJ.lss rfl rfl rfl) ?_
          refine AList.nil ?_
          refine AWp.seq ?_
          refine AWp.condT rfl ?_
          refine AWp.skip ?_
          refine AWp.seq ?_
          refine AWp.block ?_
          refine AWp.seq ?_
          refine AWp.region ?_
          refine AList.c 45 rfl rfl rfl (OpJ.move rfl rfl) ?_
          refine AList.c 46 rfl rfl rfl (OpJ.indexV (v := .p (.func (.func 49) [] [])) rfl rfl rfl av70 (by decide) (by decide) rfl) ?_
          refine AList.c 10 rfl rfl rfl (OpJ.assign rfl rfl) ?_
          refine AList.c 11 rfl rfl rfl (OpJ.assign rfl rfl) ?_
          refine AList.nil ?_
          refine AWp.seq ?_
          refine AWp.region ?_
          refine AList.c 47 rfl rfl rfl (OpJ.move rfl rfl) ?_
          refine AList.c 48 rfl rfl rfl (OpJ.move rfl rfl) ?_
          refine AList.c 49 rfl rfl rfl (OpJ.load (v := .p (.agg [.int .i64 ((b : Nat) : Int), .int .i64 (dpt l i).h])) rfl rfl ty49 rfl) ?_
          refine AList.c 50 rfl rfl rfl (OpJ.callOwn rfl rfl rfl rfl rf49 (isEarly_ok p (csN p l i) (b : Int) (dpt l i).h)) ?_
          refine AList.nil ?_
          refine AWp.cond _ rfl (fun hc5 => ?_) (fun hc5 => ?_)
          · skip
            rw [if_pos hc5] at ec
            rw [chk_err hT hk0 hg2 (by rw [ec]; decide), ec]
            refine AWp.seq ?_
            refine AWp.regionDraw 6 mixed (by kernel_rfl) (by decide) ?_
            refine AQuiet.cons 51 rfl rfl rfl (OpJ.move rfl rfl) ?_
            refine AQuiet.cons 52 rfl rfl rfl (OpJ.callP (errors_ok) rfl rfl rfl rfl rf31) ?_
            refine AQuiet.cons 53 rfl rfl rfl (OpJ.move rfl rfl) ?_
            refine AQuiet.cons 54 rfl rfl rfl (OpJ.lookupImD (KeyOk.int .i64 .i64) (gp := PV.int .i64) 0 rfl rfl rfl mp72 rfl) ?_
            refine AQuiet.cons 4 rfl rfl rfl (OpJ.assign rfl rfl) ?_
            refine AQuiet.cons 5 rfl rfl rfl (OpJ.assign rfl rfl) ?_
            refine AQuiet.nil ?_
            refine AList.nil ?_
            refine AWp.ret ?_
            exact Fin.manyE (xs := [.int .i64 (i : Int), .int .i64 _]) rfl (⟨_, _, rfl, rfl, ⟨_, _, rfl, rfl, rfl⟩⟩) rfl rfl
          · skip
            have hq0 := hc5
            refine AWp.skip ?_
            refine AWp.region ?_
            refine AList.c 55 rfl rfl rfl (OpJ.add rfl rfl rfl (i64ok ?_)) ?_
            · decide
            refine AList.c 43 rfl rfl rfl (OpJ.move rfl rfl) ?_
            refine AList.nil ?_
            refine ARounds.next ?_
            refine AWp.norm [0] [(1, _), (2, _), (6, _), (7, _), (8, _), (18, _), (19, _), (20, _), (42, _), (43, _)] [.cells (List.map V.p (shpL p (csN p l i))) 66] rfl (by repeat (first | exact Sub.nil | refine Sub.cons rfl ?_)) (by show [Blk.cells (renL _ (List.map V.p _)) _] = _; rw [renL_pure]) ?_
            refine AWp.seq ?_
            refine AWp.region ?_
            refine AList.c 44 rfl rfl rfl (OpJ.lss rfl rfl rfl) ?_
            refine AList.nil ?_
            refine AWp.seq ?_
            refine AWp.condT rfl ?_
            refine AWp.skip ?_
            refine AWp.seq ?_
            refine AWp.block ?_
            refine AWp.seq ?_
            refine AWp.region ?_
            refine AList.c 45 rfl rfl rfl (OpJ.move rfl rfl) ?_
            refine AList.c 46 rfl rfl rfl (OpJ.indexV (v := .p (.func (.func 50) [] [])) rfl rfl rfl av70 (by decide) (by decide) rfl) ?_
            refine AList.c 10 rfl rfl rfl (OpJ.assign rfl rfl) ?_
            refine AList.c 11 rfl rfl rfl (OpJ.assign rfl rfl) ?_
            refine AList.nil ?_
            refine AWp.seq ?_
            refine AWp.region ?_
            refine AList.c 47 rfl rfl rfl (OpJ.move rfl rfl) ?_
            refine AList.c 48 rfl rfl rfl (OpJ.move rfl rfl) ?_
            refine AList.c 49 rfl rfl rfl (OpJ.load (v := .p (.agg [.int .i64 ((b : Nat) : Int), .int .i64 (dpt l i).h])) rfl rfl ty49 rfl) ?_
            refine AList.c 50 rfl rfl rfl (OpJ.callOwn rfl rfl rfl rfl rf50 (isWet_ok p hp (csN p l i) b (dpt l i).h hb)) ?_
            refine AList.nil ?_
            refine AWp.cond _ rfl (fun hc5 => ?_) (fun hc5 => ?_)
            · skip
              rw [if_neg (by rw [hq0]; decide)] at ec
              rw [if_pos hc5] at ec
              rw [chk_err hT hk0 hg2 (by rw [ec]; decide), ec]
              refine AWp.seq ?_
              refine AWp.regionDraw 6 mixed (by kernel_rfl) (by decide) ?_
              refine AQuiet.cons 51 rfl rfl rfl (OpJ.move rfl rfl) ?_
              refine AQuiet.cons 52 rfl rfl rfl (OpJ.callP (errors_ok) rfl rfl rfl rfl rf31) ?_
              refine AQuiet.cons 53 rfl rfl rfl (OpJ.move rfl rfl) ?_
              refine AQuiet.cons 54 rfl rfl rfl (OpJ.lookupImD (KeyOk.int .i64 .i64) (gp := PV.int .i64) 0 rfl rfl rfl mp72 rfl) ?_
              refine AQuiet.cons 4 rfl rfl rfl (OpJ.assign rfl rfl) ?_
              refine AQuiet.cons 5 rfl rfl rfl (OpJ.assign rfl rfl) ?_
              refine AQuiet.nil ?_
              refine AList.nil ?_
              refine AWp.ret ?_
              exact Fin.manyE (xs := [.int .i64 (i : Int), .int .i64 _]) rfl (⟨_, _, rfl, rfl, ⟨_, _, rfl, rfl, rfl⟩⟩) rfl rfl
            · skip
              have hq1 := hc5
              refine AWp.skip ?_
              refine AWp.region ?_
              refine AList.c 55 rfl rfl rfl (OpJ.add rfl rfl rfl (i64ok ?_)) ?_
              · decide
              refine AList.c 43 rfl rfl rfl (OpJ.move rfl rfl) ?_
              refine AList.nil ?_
              refine ARounds.next ?_
              refine AWp.norm [0] [(1, _), (2, _), (6, _), (7, _), (8, _), (18, _), (19, _), (20, _), (42, _), (43, _)] [.cells (List.map V.p (shpL p (csN p l i))) 66] rfl (by repeat (first | exact Sub.nil | refine Sub.cons rfl ?_)) (by show [Blk.cells (renL _ (List.map V.p _)) _] = _; rw [renL_pure]) ?_
              refine AWp.seq ?_
              refine AWp.region ?_
              refine AList.c 44 rfl rfl rfl (OpJ.lss rfl rfl rfl) ?_
              refine AList.nil ?_
              refine AWp.seq ?_
              refine AWp.condT rfl ?_
              refine AWp.skip ?_
              refine AWp.seq ?_
              refine AWp.block ?_
              refine AWp.seq ?_
              refine AWp.region ?_
              refine AList.c 45 rfl rfl rfl (OpJ.move rfl rfl) ?_
              refine AList.c 46 rfl rfl rfl (OpJ.indexV (v := .p (.func (.func 51) [] [])) rfl rfl rfl av70 (by decide) (by decide) rfl) ?_
              refine AList.c 10 rfl rfl rfl (OpJ.assign rfl rfl) ?_
              refine AList.c 11 rfl rfl rfl (OpJ.assign rfl rfl) ?_
              refine AList.nil ?_
              refine AWp.seq ?_
              refine AWp.region ?_
              refine AList.c 47 rfl rfl rfl (OpJ.move rfl rfl) ?_
              refine AList.c 48 rfl rfl rfl (OpJ.move rfl rfl) ?_
              refine AList.c 49 rfl rfl rfl (OpJ.load (v := .p (.agg [.int .i64 ((b : Nat) : Int), .int .i64 (dpt l i).h])) rfl rfl ty49 rfl) ?_
              refine AList.c 50 rfl rfl rfl (OpJ.callOwn rfl rfl rfl rfl rf51 (isLate_ok p hp (csN p l i) b (dpt l i).h hb _ hSB (by decide))) ?_
              refine AList.nil ?_
              refine AWp.cond _ rfl (fun hc5 => ?_) (fun hc5 => ?_)
              · skip
                rw [if_neg (by rw [hq0]; decide)] at ec
                rw [if_neg (by rw [hq1]; decide)] at ec
                rw [if_pos hc5] at ec
                rw [chk_err hT hk0 hg2 (by rw [ec]; decide), ec]
                refine AWp.seq ?_
                refine AWp.regionDraw 6 mixed (by kernel_rfl) (by decide) ?_
                refine AQuiet.cons 51 rfl rfl rfl (OpJ.move rfl rfl) ?_
                refine AQuiet.cons 52 rfl rfl rfl (OpJ.callP (errors_ok) rfl rfl rfl rfl rf31) ?_
                refine AQuiet.cons 53 rfl rfl rfl (OpJ.move rfl rfl) ?_
                refine AQuiet.cons 54 rfl rfl rfl (OpJ.lookupImD (KeyOk.int .i64 .i64) (gp := PV.int .i64) 0 rfl rfl rfl mp72 rfl) ?_
                refine AQuiet.cons 4 rfl rfl rfl (OpJ.assign rfl rfl) ?_
                refine AQuiet.cons 5 rfl rfl rfl (OpJ.assign rfl rfl) ?_
                refine AQuiet.nil ?_
                refine AList.nil ?_
                refine AWp.ret ?_
                exact Fin.manyE (xs := [.int .i64 (i : Int), .int .i64 _]) rfl (⟨_, _, rfl, rfl, ⟨_, _, rfl, rfl, rfl⟩⟩) rfl rfl
              · skip
                have hq2 := hc5
                refine AWp.skip ?_
                refine AWp.region ?_
                refine AList.c 55 rfl rfl rfl (OpJ.add rfl rfl rfl (i64ok ?_)) ?_
                · decide
                refine AList.c 43 rfl rfl rfl (OpJ.move rfl rfl) ?_
                refine AList.nil ?_
                refine ARounds.next ?_
                refine AWp.norm [0] [(1, _), (2, _), (6, _), (7, _), (8, _), (18, _), (19, _), (20, _), (42, _), (43, _)] [.cells (List.map V.p (shpL p (csN p l i))) 66] rfl (by repeat (first | exact Sub.nil | refine Sub.cons rfl ?_)) (by show [Blk.cells (renL _ (List.map V.p _)) _] = _; rw [renL_pure]) ?_
                refine AWp.seq ?_
                refine AWp.region ?_
                refine AList.c 44 rfl rfl rfl (OpJ.lss rfl rfl rfl) ?_
                refine AList.nil ?_
                refine AWp.seq ?_
                refine AWp.condT rfl ?_
                refine AWp.skip ?_
                refine AWp.seq ?_
                refine AWp.block ?_
                refine AWp.seq ?_
                refine AWp.region ?_
                refine AList.c 45 rfl rfl rfl (OpJ.move rfl rfl) ?_
                refine AList.c 46 rfl rfl rfl (OpJ.indexV (v := .p (.func (.func 52) [] [])) rfl rfl rfl av70 (by decide) (by decide) rfl) ?_
                refine AList.c 10 rfl rfl rfl (OpJ.assign rfl rfl) ?_
                refine AList.c 11 rfl rfl rfl (OpJ.assign rfl rfl) ?_
                refine AList.nil ?_
                refine AWp.seq ?_
                refine AWp.region ?_
                refine AList.c 47 rfl rfl rfl (OpJ.move rfl rfl) ?_
                refine AList.c 48 rfl rfl rfl (OpJ.move rfl rfl) ?_
                refine AList.c 49 rfl rfl rfl (OpJ.load (v := .p (.agg [.int .i64 ((b : Nat) : Int), .int .i64 (dpt l i).h])) rfl rfl ty49 rfl) ?_
                refine AList.c 50 rfl rfl rfl (OpJ.callOwn rfl rfl rfl rfl rf52 (isFull_ok p hp (csN p l i) b (dpt l i).h hb hh2.1 (by omega))) ?_
                refine AList.nil ?_
                refine AWp.cond _ rfl (fun hc5 => ?_) (fun hc5 => ?_)
                · skip
                  rw [if_neg (by rw [hq0]; decide)] at ec
                  rw [if_neg (by rw [hq1]; decide)] at ec
                  rw [if_neg (by rw [hq2]; decide)] at ec
                  rw [if_pos hc5] at ec
                  rw [chk_err hT hk0 hg2 (by rw [ec]; decide), ec]
                  refine AWp.seq ?_
                  refine AWp.regionDraw 6 mixed (by kernel_rfl) (by decide) ?_
                  refine AQuiet.cons 51 rfl rfl rfl (OpJ.move rfl rfl) ?_
                  refine AQuiet.cons 52 rfl rfl rfl (OpJ.callP (errors_ok) rfl rfl rfl rfl rf31) ?_
                  refine AQuiet.cons 53 rfl rfl rfl (OpJ.move rfl rfl) ?_
                  refine AQuiet.cons 54 rfl rfl rfl (OpJ.lookupImD (KeyOk.int .i64 .i64) (gp := PV.int .i64) 0 rfl rfl rfl mp72 rfl) ?_
                  refine AQuiet.cons 4 rfl rfl rfl (OpJ.assign rfl rfl) ?_
                  refine AQuiet.cons 5 rfl rfl rfl (OpJ.assign rfl rfl) ?_
                  refine AQuiet.nil ?_
                  refine AList.nil ?_
                  refine AWp.ret ?_
                  exact Fin.manyE (xs := [.int .i64 (i : Int), .int .i64 _]) rfl (⟨_, _, rfl, rfl, ⟨_, _, rfl, rfl, rfl⟩⟩) rfl rfl
                · skip
                  have hq3 := hc5
                  rw [if_neg (by rw [hq0]; decide), if_neg (by rw [hq1]; decide), if_neg (by rw [hq2]; decide), if_neg (by rw [hq3]; decide)] at ec
                  refine AWp.skip ?_
                  refine AWp.region ?_
                  refine AList.c 55 rfl rfl rfl (OpJ.add rfl rfl rfl (i64ok ?_)) ?_
                  · decide
                  refine AList.c 43 rfl rfl rfl (OpJ.move rfl rfl) ?_
                  refine AList.nil ?_
                  refine ARounds.next ?_
                  refine AWp.norm [0] [(1, _), (2, _), (6, _), (7, _), (8, _), (18, _), (19, _), (20, _), (42, _), (43, _)] [.cells (List.map V.p (shpL p (csN p l i))) 66] rfl (by repeat (first | exact Sub.nil | refine Sub.cons rfl ?_)) (by show [Blk.cells (renL _ (List.map V.p _)) _] = _; rw [renL_pure]) ?_
                  refine AWp.seq ?_
                  refine AWp.region ?_
                  refine AList.c 44 rfl rfl rfl (OpJ.lss rfl rfl rfl) ?_
                  refine AList.nil ?_
                  refine AWp.seq ?_
                  refine AWp.condF rfl ?_
                  refine AWp.exit ?_
                  refine AWp.region ?_
                  refine AList.c 56 rfl rfl rfl (OpJ.move rfl rfl) ?_
                  refine AList.c 57 rfl rfl rfl (OpJ.load (v := .p (.agg [.int .i64 ((b : Nat) : Int), .int .i64 (dpt l i).h])) rfl rfl ty49 rfl) ?_
                  refine AList.callX 58 (dip_ok p hp (csN p l i) b (dpt l i).h hb hm _ hSB (by decide) hh2.1 (by omega)) rfl rfl rfl rfl rfl rfl rfl rf32 (fun v H2 hQ2 => ?_)
                  subst hQ2
                  refine AList.nil ?_
                  refine AWp.region ?_
                  refine AList.c 59 rfl rfl rfl (OpJ.add rfl rfl rfl (i64ok ?_)) ?_
                  · omega
                  refine AList.c 20 rfl rfl rfl (OpJ.move rfl rfl) ?_
                  refine AList.nil ?_
                  refine ⟨i + 1, ?_, ?_, ?_⟩
                  · refine ⟨by omega, fun j hj => ?_⟩
                    rcases Nat.lt_succ_iff_lt_or_eq.1 hj with h1 | rfl
                    · exact hg2 j h1
                    · exact ec
                  · omega
                  have es : csN p l (i + 1) = dipN p (csN p l i) b (dpt l i).h := (if_pos ec).trans (by rw [hbx]; rfl)
                  rw [es]
                  exact To.sub (Sub.cons rfl (by repeat (first | exact Sub.nil | refine Sub.cons rfl ?_)))
    · skip
      obtain rfl : i = l.length := by have h := of_decide_eq_false hc1; omega
      rw [chk_end hT hg2]
      refine AWp.exit ?_
      refine AWp.seq ?_
      refine AWp.seq ?_
      refine AWp.region ?_
      refine AList.c 60 rfl rfl rfl (OpJ.move rfl rfl) ?_
      refine AList.c 61 rfl rfl rfl (OpJ.lenSlice rfl rfl sl25 rfl) ?_
      refine AList.c 62 rfl rfl rfl (OpJ.load (v := .p (pntV p)) rfl rfl ty24 rfl) ?_
      refine AList.c 63 rfl rfl rfl (OpJ.callP (coatsOf_ok p (big14 (by omega)) (sums_ok hb hbd)) rfl rfl rfl rfl rf33) ?_
      refine AList.c 64 rfl rfl rfl (OpJ.lss rfl rfl rfl) ?_
      refine AList.nil ?_
      refine AWp.cond _ rfl (fun hc6 => ?_) (fun hc6 => ?_)
      · skip
        rw [if_pos (of_decide_eq_true hc6)]
        refine AWp.seq ?_
        refine AWp.region ?_
        refine AList.c 65 rfl rfl rfl (OpJ.move rfl rfl) ?_
        refine AList.c 66 rfl rfl rfl (OpJ.lenSlice rfl rfl sl25 rfl) ?_
        refine AList.c 4 rfl rfl rfl (OpJ.assign rfl rfl) ?_
        refine AList.c 5 rfl rfl rfl (OpJ.assign rfl rfl) ?_
        refine AList.nil ?_
        refine AWp.ret ?_
        exact Fin.manyE (xs := [.int .i64 (l.length : Int), .int .i64 4]) rfl (⟨_, _, rfl, rfl, ⟨_, _, rfl, rfl, rfl⟩⟩) rfl rfl
      · skip
        rw [if_neg (of_decide_eq_false hc6)]
        refine AWp.skip ?_
        refine AWp.seq ?_
        refine AWp.region ?_
        refine AList.c 67 rfl rfl rfl (OpJ.move rfl rfl) ?_
        refine AList.c 68 rfl rfl rfl (OpJ.lenSlice rfl rfl sl25 rfl) ?_
        refine AList.c 4 rfl rfl rfl (OpJ.assign rfl rfl) ?_
        refine AList.c 5 rfl rfl rfl (OpJ.assign rfl rfl) ?_
        refine AList.nil ?_
        refine AWp.ret ?_
        exact Fin.manyE (xs := [.int .i64 (l.length : Int), .int .i64 0]) rfl (⟨_, _, rfl, rfl, ⟨_, _, rfl, rfl, rfl⟩⟩) rfl rfl
end Go.Proofs.Ytibgdkaipleajaa
end

section
set_option linter.unusedVariables false
set_option maxRecDepth 100000
set_option maxHeartbeats 4000000
set_option linter.unusedSimpArgs false
namespace Go.Proofs.Ytibgdkaipleajaa
open Go.AF
theorem wet_ok (p : Pnt) (o : List Int) (hour : Int) (hb : p.bs.length ≤ 8) (hbd : ∀ b ∈ p.bs, b.dry.length ≤ 14) (ho : o.length ≤ 1000) : Pure Try.prog 15 [pntV p, intsV o, .int .i64 hour] (wetV (wetR p o hour)) := by
  refine Pure.start (N := 95) Try.func15 rfl rfl (Nat.le_of_ble_eq_true rfl) ?_
  refine AWp.seq ?_
  refine AWp.region ?_
  refine AList.c 3 rfl rfl rfl (OpJ.boxImm rfl rfl rfl) ?_
  refine AList.c 6 rfl rfl rfl (OpJ.allocOwn rfl zr35 rfl) ?_
  refine AList.c 7 rfl rfl rfl (OpJ.assign rfl rfl) ?_
  refine AList.nil ?_
  refine AWp.seq ?_
  refine AWp.region ?_
  refine AList.c 16 rfl rfl rfl (OpJ.load (v := .p (pntV p)) rfl rfl ty24 rfl) ?_
  refine AList.c 17 rfl rfl rfl (OpJ.move rfl rfl) ?_
  refine AList.c 18 rfl rfl rfl (OpJ.callP (times_ok p o hb hbd ho) rfl rfl rfl rfl rf13) ?_
  refine AList.c 15 rfl rfl rfl (OpJ.move rfl rfl) ?_
  refine AList.c 19 rfl rfl rfl (OpJ.extract rfl rfl rfl) ?_
  refine AList.c 20 rfl rfl rfl (OpJ.extract rfl rfl rfl) ?_
  refine AList.c 21 rfl rfl rfl (OpJ.extract rfl rfl rfl) ?_
  refine AList.c 8 rfl rfl rfl (OpJ.assign rfl rfl) ?_
  refine AList.c 9 rfl rfl rfl (OpJ.assign rfl rfl) ?_
  refine AList.c 7 rfl rfl rfl (OpJ.assign rfl rfl) ?_
  refine AList.nil ?_
  refine AWp.seq ?_
  refine AWp.block ?_
  refine AWp.seq ?_
  refine AWp.region ?_
  refine AList.c 23 rfl rfl rfl (OpJ.move rfl rfl) ?_
  refine AList.c 24 rfl rfl rfl (OpJ.neq rfl rfl rfl) ?_
  refine AList.c 22 rfl rfl rfl (OpJ.assign rfl rfl) ?_
  refine AList.nil ?_
  refine AWp.cond _ rfl (fun hc0 => ?_) (fun hc0 => ?_)
  · skip
    have hne : ¬ (timesR p o).2.2 = 0 := by simpa using hc0
    have e : wetR p o hour = (⟨0, 0⟩, (timesR p o).2.2) := if_pos hne
    rw [e]
    refine AWp.seq ?_
    refine AWp.region ?_
    refine AList.c 25 rfl rfl rfl (OpJ.load (v := .p (.agg [.int .i64 0, .int .i64 0])) rfl rfl ty35 rfl) ?_
    refine AList.c 26 rfl rfl rfl (OpJ.move rfl rfl) ?_
    refine AList.c0 rfl rfl (OpJ.store (H' := [.cells [.p (.int .i64 0), .p (.int .i64 0)] 35]) rfl rfl rfl rfl rfl ty35 rfl rfl) ?_
    refine AList.c 7 rfl rfl rfl (OpJ.assign rfl rfl) ?_
    refine AList.nil ?_
    refine AWp.ret ?_
    exact Fin.manyE (xs := [.agg [.int .i64 0, .int .i64 0], .int .i64 (timesR p o).2.2]) rfl (⟨_, _, rfl, ⟨_, _, _, rfl, ty35, rfl⟩, ⟨_, _, rfl, rfl, rfl⟩⟩) rfl rfl
  · skip
    have h0 : (timesR p o).2.2 = 0 := by simpa using hc0
    obtain ⟨hT, hall, hco, et⟩ := times_0 h0
    have hp := pnt_ok hT
    have hd := hp.dip
    have hx : tmL (timesR p o) = intsV (hrs p o o.length) := by rw [et]; exact if_pos rfl
    rw [hx]
    refine AWp.seq ?_
    refine AWp.region ?_
    refine AList.c 28 rfl rfl rfl (OpJ.move rfl rfl) ?_
    refine AList.c 29 rfl rfl rfl (OpJ.callP (isHour_ok _) rfl rfl rfl rfl rf29) ?_
    refine AList.c 30 rfl rfl rfl (OpJ.not_ rfl rfl) ?_
    refine AList.c 27 rfl rfl rfl (OpJ.assign rfl rfl) ?_
    refine AList.nil ?_
    refine AWp.cond _ rfl (fun hc1 => ?_) (fun hc1 => ?_)
    · skip
      have hf : inB hour 0 1048576 = false := by simpa using hc1
      have e : wetR p o hour = (⟨0, 0⟩, 2) := (if_neg (not_not_intro h0)).trans (if_pos hf)
      rw [e]
      refine AWp.seq ?_
      refine AWp.region ?_
      refine AList.c 31 rfl rfl rfl (OpJ.load (v := .p (.agg [.int .i64 0, .int .i64 0])) rfl rfl ty35 rfl) ?_
      refine AList.c0 rfl rfl (OpJ.store (H' := [.cells [.p (.int .i64 0), .p (.int .i64 0)] 35]) rfl rfl rfl rfl rfl ty35 rfl rfl) ?_
      refine AList.c 7 rfl rfl rfl (OpJ.assign rfl rfl) ?_
      refine AList.nil ?_
      refine AWp.ret ?_
      exact Fin.manyE (xs := [.agg [.int .i64 0, .int .i64 0], .int .i64 2]) rfl (⟨_, _, rfl, ⟨_, _, _, rfl, ty35, rfl⟩, ⟨_, _, rfl, rfl, rfl⟩⟩) rfl rfl
    · skip
      have hf : ¬ inB hour 0 1048576 = false := by simpa using hc1
      have hho := hour_in (show inB hour 0 1048576 = true by simpa using hf)
      have e : wetR p o hour = (⟨cntB (wl (wsN p o hour o.length) hour) 4, cntB (wh (wsN p o hour o.length) hour) 4⟩, 0) := (if_neg (not_not_intro h0)).trans (if_neg hf)
      rw [e]
      refine AWp.skip ?_
      refine AWp.seq ?_
      refine AWp.region ?_
      refine AList.c 32 rfl rfl rfl (OpJ.load (v := .p (pntV p)) rfl rfl ty24 rfl) ?_
      refine AList.c 33 rfl rfl rfl (OpJ.buildR (v := .p (.agg (shpL p shp0))) rfl bd66 rfl rfl rfl) ?_
      refine AList.c 34 rfl rfl rfl (OpJ.boxOwn rfl rfl rfl) ?_
      refine AList.c 10 rfl rfl rfl (OpJ.assign rfl rfl) ?_
      refine AList.nil ?_
      refine AWp.seq ?_
      refine AWp.seq ?_
      refine AWp.region ?_
      refine AList.c 35 rfl rfl rfl (OpJ.move rfl rfl) ?_
      refine AList.c 36 rfl rfl rfl (OpJ.lenSlice rfl rfl sl26 rfl) ?_
      refine AList.c 37 rfl rfl rfl (OpJ.move rfl rfl) ?_
      refine AList.nil ?_
      refine AWp.block ?_
      refine AWp.loopHL [2, 3, 6, 8, 10, 14, 35, 36, 60, 61, 62, 63, 64, 65, 66, 67, 68, 69, 70, 71, 72, 73, 74, 75, 76, 77, 78, 79, 80, 81, 82, 83, 84, 85, 86, 87, 88, 89, 90, 91, 92, 93, 94] (fun g => [(37, .p (.int .i64 ((g : Nat) : Int)))]) (fun g => [.cells [.p (.int .i64 0), .p (.int .i64 0)] 35, .cells (List.map V.p (shpL p (wsN p o hour g))) 66]) (fun g => g ≤ o.length) (fun g => o.length - g) 0 (Nat.zero_le _) (To.sub (Sub.chk (Sub.cons rfl (Sub.nil)))) (fun i hg => ?_)
      refine AWp.seq ?_
      refine AWp.region ?_
      refine AList.c 38 rfl rfl rfl (OpJ.lss rfl rfl rfl) ?_
      refine AList.nil ?_
      refine AWp.seq ?_
      refine AWp.cond _ rfl (fun hc2 => ?_) (fun hc2 => ?_)
      · skip
        have hk0 : i < o.length := by have h := of_decide_eq_true hc2; omega
        obtain ⟨b, hbx, hb2, hm, hSB, hh0, hh1⟩ := ws_in hp o hour (i := i) (fun j hj => hall j (by omega))
        have hhr : nt (hrs p o o.length) i = hrI p o i := hrs_get p o hk0
        refine AWp.skip ?_
        refine AWp.seq ?_
        refine AWp.block ?_
        refine AWp.seq ?_
        refine AWp.region ?_
        refine AList.c 39 rfl rfl rfl (OpJ.move rfl rfl) ?_
        refine AList.c 40 rfl rfl rfl (OpJ.indexG (g := nt o) nt_get rfl rfl rfl sl26 el26 rfl (fun _ => rfl) (by decide) hk0) ?_
        refine AList.c 41 rfl rfl rfl (OpJ.load (v := .p (.int .i64 (nt o i))) rfl rfl ty3 rfl) ?_
        refine AList.c 11 rfl rfl rfl (OpJ.assign rfl rfl) ?_
        refine AList.c 12 rfl rfl rfl (OpJ.assign rfl rfl) ?_
        refine AList.nil ?_
        refine AWp.seq ?_
        refine AWp.regionDraw 9 mixed (by kernel_rfl) (by decide) ?_
        refine AQuiet.cons 42 rfl rfl rfl (OpJ.move rfl rfl) ?_
        refine AQuiet.cons 43 rfl rfl rfl (OpJ.move rfl rfl) ?_
        refine AQuiet.cons 44 rfl rfl rfl (OpJ.indexG (g := nt (hrs p o o.length)) nt_get rfl rfl rfl sl26 el26 rfl (fun _ => rfl) (by decide) (by rw [hrs_len]; exact hk0)) ?_
        refine AQuiet.cons 45 rfl rfl rfl (OpJ.load (v := .p (.int .i64 (hrI p o i))) rfl rfl ty3 (congrArg (fun z => some (V.p (PV.int .i64 z))) hhr)) ?_
        refine AQuiet.cons 46 rfl rfl rfl (OpJ.fieldAddr rfl rfl fd24_0 rfl) ?_
        refine AQuiet.cons 47 rfl rfl rfl (OpJ.load (v := .p (.int .i64 p.dip)) rfl rfl ty3 rfl) ?_
        refine AQuiet.cons 48 rfl rfl rfl (OpJ.add rfl rfl rfl (i64ok ?_)) ?_
        · omega
        refine AQuiet.cons 49 rfl rfl rfl (OpJ.move rfl rfl) ?_
        refine AQuiet.cons 50 rfl rfl rfl (OpJ.leq rfl rfl rfl) ?_
        refine AQuiet.nil ?_
        refine AList.nil ?_
        refine AWp.cond _ rfl (fun hc3 => ?_) (fun hc3 => ?_)
        · skip
          have hle : hrI p o i + p.dip ≤ hour := of_decide_eq_true hc3
          have ew : wsN p o hour (i + 1) = dipN p (wsN p o hour i) b (hrI p o i) := (if_pos hle).trans (by rw [hbx]; rfl)
          rw [hbx]
          refine AWp.region ?_
          refine AList.c 51 rfl rfl rfl (OpJ.move rfl rfl) ?_
          refine AList.c 52 rfl rfl rfl (OpJ.move rfl rfl) ?_
          refine AList.c 53 rfl rfl rfl (OpJ.move rfl rfl) ?_
          refine AList.c 54 rfl rfl rfl (OpJ.move rfl rfl) ?_
          refine AList.c 55 rfl rfl rfl (OpJ.indexG (g := nt (hrs p o o.length)) nt_get rfl rfl rfl sl26 el26 rfl (fun _ => rfl) (by decide) (by rw [hrs_len]; exact hk0)) ?_
          refine AList.c 56 rfl rfl rfl (OpJ.load (v := .p (.int .i64 (hrI p o i))) rfl rfl ty3 (congrArg (fun z => some (V.p (PV.int .i64 z))) hhr)) ?_
          refine AList.c 57 rfl rfl rfl (OpJ.buildR (v := .p (.agg [.int .i64 ((b : Nat) : Int), .int .i64 (hrI p o i)])) rfl bd49 rfl rfl rfl) ?_
          refine AList.callXK 58 [1] (all := [.ptr 1 0, .p (.agg [.int .i64 ((b : Nat) : Int), .int .i64 (hrI p o i)])]) (by show ACalls _ _ _ [Blk.cells (renL _ (List.map V.p _)) _] _; rw [renL_pure]; exact dip_ok p hp (wsN p o hour i) b (hrI p o i) hb2 hm _ hSB (by omega) hh0 (by omega)) (fun v H2 h => by rw [h]; rfl) (by rfl) (by rfl) rfl rfl rfl rfl rfl rfl rfl rf32 (fun v H2 hQ2 => ?_)
          subst hQ2
          refine AList.nil ?_
          refine AWp.region ?_
          refine AList.c 59 rfl rfl rfl (OpJ.add rfl rfl rfl (i64ok ?_)) ?_
          · omega
          refine AList.c 37 rfl rfl rfl (OpJ.move rfl rfl) ?_
          refine AList.nil ?_
          refine ⟨i + 1, ?_, ?_, ?_⟩
          · omega
          · omega
          rw [ew]
          exact To.done [0, 1] rfl (by repeat (first | exact Sub.nil | refine Sub.cons rfl ?_)) (by show [Blk.cells _ _, Blk.cells (renL _ (renL _ (List.map V.p _))) _] = _; rw [renL_pure, renL_pure]; rfl)
        · skip
          have hle : ¬ hrI p o i + p.dip ≤ hour := of_decide_eq_false hc3
          have ew : wsN p o hour (i + 1) = (wsN p o hour i) := if_neg hle
          refine AWp.skip ?_
          refine AWp.region ?_
          refine AList.c 59 rfl rfl rfl (OpJ.add rfl rfl rfl (i64ok ?_)) ?_
          · omega
          refine AList.c 37 rfl rfl rfl (OpJ.move rfl rfl) ?_
          refine AList.nil ?_
          refine ⟨i + 1, ?_, ?_, ?_⟩
          · omega
          · omega
          rw [ew]
          exact To.sub (Sub.cons rfl (by repeat (first | exact Sub.nil | refine Sub.cons rfl ?_)))
      · skip
        obtain rfl : i = o.length := by have h := of_decide_eq_false hc2; omega
        refine AWp.exit ?_
        refine AWp.seq ?_
        refine AWp.seq ?_
        refine AWp.region ?_
        refine AList.c 60 rfl rfl rfl (OpJ.move rfl rfl) ?_
        refine AList.c 61 rfl rfl rfl (OpJ.nilCheck rfl rfl) ?_
        refine AList.c 62 rfl rfl rfl (OpJ.fieldAddr rfl rfl fd66_1 rfl) ?_
        refine AList.c 63 rfl rfl rfl (OpJ.load (v := .p (.agg ((hadL (wsN p o hour o.length)).flatMap Hng.cells))) rfl rfl ty64 rfl) ?_
        refine AList.c 64 rfl rfl rfl (OpJ.move rfl rfl) ?_
        refine AList.nil ?_
        refine AWp.block ?_
        refine AWp.loopHL [2, 6, 63, 94] (fun g => [(64, .p (.int .i64 ((g : Nat) : Int)))]) (fun g => [.cells [.p (.int .i64 (cntB (wl (wsN p o hour o.length) hour) g)), .p (.int .i64 (cntB (wh (wsN p o hour o.length) hour) g))] 35, .cells (List.map V.p (shpL p (wsN p o hour o.length))) 66]) (fun g => g ≤ 4) (fun g => 4 - g) 0 (Nat.zero_le _) (To.sub (Sub.chk (Sub.cons rfl (Sub.nil)))) (fun k hg => ?_)
        refine AWp.seq ?_
        refine AWp.region ?_
        refine AList.c 65 rfl rfl rfl (OpJ.lss rfl rfl rfl) ?_
        refine AList.nil ?_
        refine AWp.seq ?_
        refine AWp.cond _ rfl (fun hc4 => ?_) (fun hc4 => ?_)
        · skip
          have hk4 : k < 4 := by have h := of_decide_eq_true hc4; omega
          have hw1 := cntB_le (wl (wsN p o hour o.length) hour) k
          have hw2 := cntB_le (wh (wsN p o hour o.length) hour) k
          refine AWp.skip ?_
          refine AWp.seq ?_
          refine AWp.block ?_
          refine AWp.seq ?_
          refine AWp.region ?_
          refine AList.c 66 rfl rfl rfl (OpJ.indexV (v := .p (.agg ((wsN p o hour o.length).had k).cells)) rfl rfl rfl av64 (by omega) (by omega) (had_at _ hk4)) ?_
          refine AList.c 14 rfl rfl rfl (OpJ.allocOwn rfl zr63 rfl) ?_
          refine AList.c0 rfl rfl (OpJ.store (H' := [.cells [.p (.int .i64 (cntB (wl (wsN p o hour o.length) hour) k)), .p (.int .i64 (cntB (wh (wsN p o hour o.length) hour) k))] 35, .cells (List.map V.p (shpL p (wsN p o hour o.length))) 66, .cells (((wsN p o hour o.length).had k).cells.map .p) 63]) rfl rfl rfl rfl rfl ty63 rfl rfl) ?_
          refine AList.nil ?_
          refine AWp.seq ?_
          refine AWp.seq ?_
          refine AWp.freeze 2 rfl rfl ?_
          refine AWp.norm [0, 1] [(2, _), (6, _), (14, .p (.ip ((wsN p o hour o.length).had k).cells 0)), (63, _), (64, _)] [.cells [.p (.int .i64 (cntB (wl (wsN p o hour o.length) hour) k)), .p (.int .i64 (cntB (wh (wsN p o hour o.length) hour) k))] 35, .cells (List.map V.p (shpL p (wsN p o hour o.length))) 66] rfl (by repeat (first | exact Sub.nil | refine Sub.cons rfl ?_)) (by show [Blk.cells _ _, Blk.cells (renL _ (List.map V.p _)) _] = _; rw [renL_pure]; rfl) ?_
          refine AWp.region ?_
          refine AList.c 67 rfl rfl rfl (OpJ.fieldAddr rfl rfl fd63_0 rfl) ?_
          refine AList.c 68 rfl rfl rfl (OpJ.load (v := .p (.int .i64 (((wsN p o hour o.length).had k).many : Int))) rfl rfl ty3 rfl) ?_
          refine AList.c 69 rfl rfl rfl (OpJ.gtr rfl rfl rfl) ?_
          refine AList.c 70 rfl rfl rfl (OpJ.move rfl rfl) ?_
          refine AList.g 71 70 rfl rfl rfl rfl rfl rfl rfl [(2, _)] (fun h => And.intro (.inl rfl) (trivial)) (fun h => (OpJ.move rfl rfl)) ?_
          refine AList.g 72 70 rfl rfl rfl rfl rfl rfl rfl [(14, _)] (fun h => And.intro (.inl rfl) (trivial)) (fun h => (OpJ.fieldAddr rfl rfl fd63_2 rfl)) ?_
          refine AList.g 73 70 rfl rfl rfl rfl rfl rfl rfl [(72, _)] (fun h => And.intro (.inr ⟨_, rfl, h⟩) (trivial)) (fun h => (OpJ.load (v := .p (.int .i64 ((wsN p o hour o.length).had k).could)) rfl rfl ty3 rfl)) ?_
          refine AList.g 74 70 rfl rfl rfl rfl rfl rfl rfl [(71, _), (73, _)] (fun h => And.intro (.inr ⟨_, rfl, h⟩) (And.intro (.inr ⟨_, rfl, h⟩) (trivial))) (fun h => (OpJ.lss rfl rfl rfl)) ?_
          refine AList.c 75 rfl rfl rfl (OpJ.and_ rfl rfl rfl ?_) ?_
          · first | (intro h; rw [h]; rfl) | (intro h; simp_all)
          refine AList.nil ?_
          refine AWp.cond _ rfl (fun hc5 => ?_) (fun hc5 => ?_)
          · skip
            have e1 : cntB (wl (wsN p o hour o.length) hour) (k + 1) = cntB (wl (wsN p o hour o.length) hour) k + 1 := if_pos hc5
            refine AWp.region ?_
            refine AList.c 76 rfl rfl rfl (OpJ.fieldAddr rfl rfl fd35_0 rfl) ?_
            refine AList.c 77 rfl rfl rfl (OpJ.load (v := .p (.int .i64 (cntB (wl (wsN p o hour o.length) hour) k))) rfl rfl ty3 rfl) ?_
            refine AList.c 78 rfl rfl rfl (OpJ.add rfl rfl rfl (i64ok ?_)) ?_
            · omega
            refine AList.c 79 rfl rfl rfl (OpJ.fieldAddr rfl rfl fd35_0 rfl) ?_
            refine AList.c0 rfl rfl (OpJ.store rfl rfl rfl rfl rfl ty3 rfl rfl) ?_
            refine AList.nil ?_
            refine AWp.seq ?_
            refine AWp.region ?_
            refine AList.c 80 rfl rfl rfl (OpJ.fieldAddr rfl rfl fd63_0 rfl) ?_
            refine AList.c 81 rfl rfl rfl (OpJ.load (v := .p (.int .i64 (((wsN p o hour o.length).had k).many : Int))) rfl rfl ty3 rfl) ?_
            refine AList.c 82 rfl rfl rfl (OpJ.gtr rfl rfl rfl) ?_
            refine AList.c 83 rfl rfl rfl (OpJ.move rfl rfl) ?_
            refine AList.g 84 83 rfl rfl rfl rfl rfl rfl rfl [(2, _)] (fun h => And.intro (.inl rfl) (trivial)) (fun h => (OpJ.move rfl rfl)) ?_
            refine AList.g 85 83 rfl rfl rfl rfl rfl rfl rfl [(14, _)] (fun h => And.intro (.inl rfl) (trivial)) (fun h => (OpJ.fieldAddr rfl rfl fd63_3 rfl)) ?_
            refine AList.g 86 83 rfl rfl rfl rfl rfl rfl rfl [(85, _)] (fun h => And.intro (.inr ⟨_, rfl, h⟩) (trivial)) (fun h => (OpJ.load (v := .p (.int .i64 ((wsN p o hour o.length).had k).surely)) rfl rfl ty3 rfl)) ?_
            refine AList.g 87 83 rfl rfl rfl rfl rfl rfl rfl [(84, _), (86, _)] (fun h => And.intro (.inr ⟨_, rfl, h⟩) (And.intro (.inr ⟨_, rfl, h⟩) (trivial))) (fun h => (OpJ.lss rfl rfl rfl)) ?_
            refine AList.c 88 rfl rfl rfl (OpJ.and_ rfl rfl rfl ?_) ?_
            · first | (intro h; rw [h]; rfl) | (intro h; simp_all)
            refine AList.nil ?_
            refine AWp.cond _ rfl (fun hc6 => ?_) (fun hc6 => ?_)
            · skip
              have e2 : cntB (wh (wsN p o hour o.length) hour) (k + 1) = cntB (wh (wsN p o hour o.length) hour) k + 1 := if_pos hc6
              refine AWp.region ?_
              refine AList.c 89 rfl rfl rfl (OpJ.fieldAddr rfl rfl fd35_1 rfl) ?_
              refine AList.c 90 rfl rfl rfl (OpJ.load (v := .p (.int .i64 (cntB (wh (wsN p o hour o.length) hour) k))) rfl rfl ty3 rfl) ?_
              refine AList.c 91 rfl rfl rfl (OpJ.add rfl rfl rfl (i64ok ?_)) ?_
              · omega
              refine AList.c 92 rfl rfl rfl (OpJ.fieldAddr rfl rfl fd35_1 rfl) ?_
              refine AList.c0 rfl rfl (OpJ.store rfl rfl rfl rfl rfl ty3 rfl rfl) ?_
              refine AList.nil ?_
              refine AWp.region ?_
              refine AList.c 93 rfl rfl rfl (OpJ.add rfl rfl rfl (i64ok ?_)) ?_
              · omega
              refine AList.c 64 rfl rfl rfl (OpJ.move rfl rfl) ?_
              refine AList.nil ?_
              refine ⟨k + 1, ?_, ?_, ?_⟩
              · omega
              · omega
              rw [e1, e2]
              exact To.sub (Sub.cons rfl (by repeat (first | exact Sub.nil | refine Sub.cons rfl ?_)))
            · skip
              have e2 : cntB (wh (wsN p o hour o.length) hour) (k + 1) = cntB (wh (wsN p o hour o.length) hour) k := if_neg (by show ¬ wh _ _ _ = true; rw [show wh (wsN p o hour o.length) hour k = false from hc6]; decide)
              refine AWp.skip ?_
              refine AWp.region ?_
              refine AList.c 93 rfl rfl rfl (OpJ.add rfl rfl rfl (i64ok ?_)) ?_
              · omega
              refine AList.c 64 rfl rfl rfl (OpJ.move rfl rfl) ?_
              refine AList.nil ?_
              refine ⟨k + 1, ?_, ?_, ?_⟩
              · omega
              · omega
              rw [e1, e2]
              exact To.sub (Sub.cons rfl (by repeat (first | exact Sub.nil | refine Sub.cons rfl ?_)))
          · skip
            have e1 : cntB (wl (wsN p o hour o.length) hour) (k + 1) = cntB (wl (wsN p o hour o.length) hour) k := if_neg (by show ¬ wl _ _ _ = true; rw [show wl (wsN p o hour o.length) hour k = false from hc5]; decide)
            refine AWp.skip ?_
            refine AWp.seq ?_
            refine AWp.region ?_
            refine AList.c 80 rfl rfl rfl (OpJ.fieldAddr rfl rfl fd63_0 rfl) ?_
            refine AList.c 81 rfl rfl rfl (OpJ.load (v := .p (.int .i64 (((wsN p o hour o.length).had k).many : Int))) rfl rfl ty3 rfl) ?_
            refine AList.c 82 rfl rfl rfl (OpJ.gtr rfl rfl rfl) ?_
            refine AList.c 83 rfl rfl rfl (OpJ.move rfl rfl) ?_
            refine AList.g 84 83 rfl rfl rfl rfl rfl rfl rfl [(2, _)] (fun h => And.intro (.inl rfl) (trivial)) (fun h => (OpJ.move rfl rfl)) ?_
            refine AList.g 85 83 rfl rfl rfl rfl rfl rfl rfl [(14, _)] (fun h => And.intro (.inl rfl) (trivial)) (fun h => (OpJ.fieldAddr rfl rfl fd63_3 rfl)) ?_
            refine AList.g 86 83 rfl rfl rfl rfl rfl rfl rfl [(85, _)] (fun h => And.intro (.inr ⟨_, rfl, h⟩) (trivial)) (fun h => (OpJ.load (v := .p (.int .i64 ((wsN p o hour o.length).had k).surely)) rfl rfl ty3 rfl)) ?_
            refine AList.g 87 83 rfl rfl rfl rfl rfl rfl rfl [(84, _), (86, _)] (fun h => And.intro (.inr ⟨_, rfl, h⟩) (And.intro (.inr ⟨_, rfl, h⟩) (trivial))) (fun h => (OpJ.lss rfl rfl rfl)) ?_
            refine AList.c 88 rfl rfl rfl (OpJ.and_ rfl rfl rfl ?_) ?_
            · first | (intro h; rw [h]; rfl) | (intro h; simp_all)
            refine AList.nil ?_
            refine AWp.cond _ rfl (fun hc6 => ?_) (fun hc6 => ?_)
            · skip
              have e2 : cntB (wh (wsN p o hour o.length) hour) (k + 1) = cntB (wh (wsN p o hour o.length) hour) k + 1 := if_pos hc6
              refine AWp.region ?_
              refine AList.c 89 rfl rfl rfl (OpJ.fieldAddr rfl rfl fd35_1 rfl) ?_
              refine AList.c 90 rfl rfl rfl (OpJ.load (v := .p (.int .i64 (cntB (wh (wsN p o hour o.length) hour) k))) rfl rfl ty3 rfl) ?_
              refine AList.c 91 rfl rfl rfl (OpJ.add rfl rfl rfl (i64ok ?_)) ?_
              · omega
              refine AList.c 92 rfl rfl rfl (OpJ.fieldAddr rfl rfl fd35_1 rfl) ?_
              refine AList.c0 rfl rfl (OpJ.store rfl rfl rfl rfl rfl ty3 rfl rfl) ?_
              refine AList.nil ?_
              refine AWp.region ?_
              refine AList.c 93 rfl rfl rfl (OpJ.add rfl rfl rfl (i64ok ?_)) ?_
              · omega
              refine AList.c 64 rfl rfl rfl (OpJ.move rfl rfl) ?_
              refine AList.nil ?_
              refine ⟨k + 1, ?_, ?_, ?_⟩
              · omega
              · omega
              rw [e1, e2]
              exact To.sub (Sub.cons rfl (by repeat (first | exact Sub.nil | refine Sub.cons rfl ?_)))
            · skip
              have e2 : cntB (wh (wsN p o hour o.length) hour) (k + 1) = cntB (wh (wsN p o hour o.length) hour) k := if_neg (by show ¬ wh _ _ _ = true; rw [show wh (wsN p o hour o.length) hour k = false from hc6]; decide)
              refine AWp.skip ?_
              refine AWp.region ?_
              refine AList.c 93 rfl rfl rfl (OpJ.add rfl rfl rfl (i64ok ?_)) ?_
              · omega
              refine AList.c 64 rfl rfl rfl (OpJ.move rfl rfl) ?_
              refine AList.nil ?_
              refine ⟨k + 1, ?_, ?_, ?_⟩
              · omega
              · omega
              rw [e1, e2]
              exact To.sub (Sub.cons rfl (by repeat (first | exact Sub.nil | refine Sub.cons rfl ?_)))
        · skip
          obtain rfl : k = 4 := by have h := of_decide_eq_false hc4; omega
          refine AWp.exit ?_
          refine AWp.seq ?_
          refine AWp.region ?_
          refine AList.c 94 rfl rfl rfl (OpJ.load (v := .p (.agg [.int .i64 (cntB (wl (wsN p o hour o.length) hour) 4), .int .i64 (cntB (wh (wsN p o hour o.length) hour) 4)])) rfl rfl ty35 rfl) ?_
          refine AList.c0 rfl rfl (OpJ.store (H' := [.cells [.p (.int .i64 (cntB (wl (wsN p o hour o.length) hour) 4)), .p (.int .i64 (cntB (wh (wsN p o hour o.length) hour) 4))] 35, .cells (List.map V.p (shpL p (wsN p o hour o.length))) 66]) rfl rfl rfl rfl rfl ty35 rfl rfl) ?_
          refine AList.c 7 rfl rfl rfl (OpJ.assign rfl rfl) ?_
          refine AList.nil ?_
          refine AWp.ret ?_
          exact Fin.manyE (xs := [.agg [.int .i64 (cntB (wl (wsN p o hour o.length) hour) 4), .int .i64 (cntB (wh (wsN p o hour o.length) hour) 4)], .int .i64 0]) rfl (⟨_, _, rfl, ⟨_, _, _, rfl, ty35, rfl⟩, ⟨_, _, rfl, rfl, rfl⟩⟩) rfl rfl
end Go.Proofs.Ytibgdkaipleajaa
end
