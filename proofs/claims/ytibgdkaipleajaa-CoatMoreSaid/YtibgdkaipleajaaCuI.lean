/-
  An order by remainders, its dips; CoatEarly.
-/
import Derived.Test.YtibgdkaipleajaaCuF3
import Derived.Test.YtibgdkaipleajaaCuH
import Derived.Test.YtibgdkaipleajaaCuP3
section
set_option linter.unusedVariables false
set_option maxRecDepth 100000
set_option maxHeartbeats 4000000
set_option linter.unusedSimpArgs false
namespace Go.Proofs.Ytibgdkaipleajaa
open Go.AF
theorem had0 (p : Pnt) : (List.replicate p.bs.length [PV.int .i64 0]).flatten.map V.p = ((hadR p []).flatMap i1).map V.p := by
  rw [hadR_nil]
  congr 1
  generalize p.bs.length = n
  induction n with
  | zero => rfl
  | succ n ih => rw [List.replicate_succ, List.replicate_succ, List.flatten_cons, List.flatMap_cons, ih]; rfl
theorem tmodN (a b : Nat) : Int.tmod (a : Int) (b : Int) = ((a % b : Nat) : Int) := rfl
theorem order_len (p : Pnt) (hp : Ok p) (by_ : List Nat) (i : Nat) : (ordN p by_ i).length ≤ 9 := by
  rw [ordN_len (by have := hp.n; omega)]
  have := hp.all
  omega
theorem nil_of0 {l : List Int} (h : l.length = 0) : l.flatMap i1 = [] := by rw [List.eq_nil_of_length_eq_zero h]; rfl
theorem order_ok (p : Pnt) (hp : Ok p) (by_ : List Nat) (hby0 : 0 < by_.length) (hby : by_.length ≤ bigN) (h255 : ∀ x ∈ by_, x ≤ 255) : Pure Try.prog 21 [pntV p, bysV by_] (intsV (ordN p by_ 9)) := by
  have hn4 := hp.n
  have hn0 : 0 < p.bs.length := by omega
  unfold bigN at hby
  refine Pure.start (N := 68) Try.func21 rfl rfl (Nat.le_of_ble_eq_true rfl) ?_
  refine AWp.seq ?_
  refine AWp.region ?_
  refine AList.c 2 rfl rfl rfl (OpJ.boxImm rfl rfl rfl) ?_
  refine AList.c 4 rfl rfl rfl (OpJ.assign rfl rfl) ?_
  refine AList.nil ?_
  refine AWp.seq ?_
  refine AWp.region ?_
  refine AList.c 5 rfl rfl rfl (OpJ.assign rfl rfl) ?_
  refine AList.nil ?_
  refine AWp.seq ?_
  refine AWp.region ?_
  refine AList.c 11 rfl rfl rfl (OpJ.fieldAddr rfl rfl fd24_2 rfl) ?_
  refine AList.c 12 rfl rfl rfl (OpJ.load (v := .p (cotsV p.bs)) rfl rfl ty22 rfl) ?_
  refine AList.c 13 rfl rfl rfl (OpJ.lenSlice rfl rfl sl22 rfl) ?_
  refine AList.c 14 rfl rfl rfl (OpJ.makeSlice (n := p.bs.length) (c := p.bs.length) rfl rfl rfl slz26 by3 (by decide) (Nat.le_refl _) (by show 8 * p.bs.length ≤ 281474976710656; omega)) ?_
  refine AList.c 6 rfl rfl rfl (OpJ.assign rfl rfl) ?_
  refine AList.nil ?_
  refine AWp.seq ?_
  refine AWp.seq ?_
  rw [had0]
  refine AWp.to To.pad ?_
  refine AWp.region ?_
  refine AList.c 7 rfl rfl rfl (OpJ.assign rfl rfl) ?_
  refine AList.nil ?_
  refine AWp.block ?_
  refine AWp.loopHL [1, 2, 6, 67] (fun g => [(7, .p (.int .i64 ((g : Nat) : Int))), (5, accV 1 (ordN p by_ g).length)]) (fun g => [.row (((hadR p (ordN p by_ g)).flatMap i1).map .p) 3, accB (((ordN p by_ g).flatMap i1).map .p) 3 (ordN p by_ g).length]) (fun g => g ≤ 9) (fun g => 9 - g) 0 (Nat.zero_le _) (To.sub (Sub.chk (Sub.cons rfl (Sub.cons rfl (Sub.nil))))) (fun i hg => ?_)
  refine AWp.seq ?_
  refine AWp.seq ?_
  refine AWp.region ?_
  refine AList.c 15 rfl rfl rfl (OpJ.move rfl rfl) ?_
  refine AList.c 16 rfl rfl rfl (OpJ.lss rfl rfl rfl) ?_
  refine AList.nil ?_
  refine AWp.cond _ rfl (fun hc0 => ?_) (fun hc0 => ?_)
  · skip
    have hi9 : i < 9 := by have h := of_decide_eq_true hc0; omega
    have hol := order_len p hp by_ i
    have h25 := h255 _ (nn_mem (Nat.mod_lt i hby0))
    obtain ⟨B, hB⟩ : ∃ B, B = nn by_ (i % by_.length) := ⟨_, rfl⟩
    rw [← hB] at h25
    have hbl : B % p.bs.length < p.bs.length := Nat.mod_lt _ hn0
    refine AWp.skip ?_
    refine AWp.join (fun (g : Unit) => [(1, .p (bysV by_)), (2, .p (.ip (pntC p) 0)), (5, accV 1 (ordN p by_ (i + 1)).length), (6, .row 0 p.bs.length), (7, .p (.int .i64 ((i : Nat) : Int)))]) (fun (g : Unit) => [.row (((hadR p (ordN p by_ (i + 1))).flatMap i1).map .p) 3, accB (((ordN p by_ (i + 1)).flatMap i1).map .p) 3 (ordN p by_ (i + 1)).length]) (fun (g : Unit) => True) ?_ (fun g hg => ?_)
    · skip
      refine AWp.block ?_
      refine AWp.seq ?_
      refine AWp.regionDraw 13 mixed (by kernel_rfl) (by decide) ?_
      refine AQuiet.cons 19 rfl rfl rfl (OpJ.move rfl rfl) ?_
      refine AQuiet.cons 20 rfl rfl rfl (OpJ.move rfl rfl) ?_
      refine AQuiet.cons 21 rfl rfl rfl (OpJ.move rfl rfl) ?_
      refine AQuiet.cons 22 rfl rfl rfl (OpJ.lenSlice rfl rfl sl42 rfl) ?_
      refine AQuiet.cons 23 rfl rfl rfl (OpJ.rem (m := ((i % by_.length : Nat) : Int)) rfl rfl rfl ?_ ?_) ?_
      · omega
      · exact tmodN _ _
      refine AQuiet.cons 24 rfl rfl rfl (OpJ.indexG (g := nn by_) nn_get rfl rfl rfl sl42 el42 rfl (fun _ => rfl) (by decide) (Nat.mod_lt _ hby0)) ?_
      refine AQuiet.cons 25 rfl rfl rfl (OpJ.load (v := .p (.int .u8 ((nn by_ (i % by_.length) : Nat) : Int))) rfl rfl ty5 rfl) ?_
      refine AQuiet.cons 26 rfl rfl rfl (OpJ.convInt rfl rfl (by rw [un5]; rfl) un3 (i64ok ?_)) ?_
      · rw [← hB]; omega
      refine AQuiet.cons 27 rfl rfl rfl (OpJ.fieldAddr rfl rfl fd24_2 rfl) ?_
      refine AQuiet.cons 28 rfl rfl rfl (OpJ.load (v := .p (cotsV p.bs)) rfl rfl ty22 rfl) ?_
      refine AQuiet.cons 29 rfl rfl rfl (OpJ.lenSlice rfl rfl sl22 rfl) ?_
      refine AQuiet.cons 30 rfl rfl rfl (OpJ.rem (m := ((nn by_ (i % by_.length) % p.bs.length : Nat) : Int)) rfl rfl rfl ?_ ?_) ?_
      · omega
      · exact tmodN _ _
      refine AQuiet.cons 8 rfl rfl rfl (OpJ.assign rfl rfl) ?_
      refine AQuiet.nil ?_
      refine AList.nil ?_
      refine AWp.seq ?_
      refine AWp.region ?_
      refine AList.c 9 rfl rfl rfl (OpJ.assign rfl rfl) ?_
      refine AList.nil ?_
      refine AWp.block ?_
      refine AWp.loopHL [1, 2, 6, 7, 8, 15, 16, 17, 18, 19, 20, 21, 22, 23, 24, 25, 26, 27, 28, 29, 30, 67] (fun g => [(9, .p (.int .i64 ((g : Nat) : Int))), (5, accV 1 (ordN p by_ i).length)]) (fun g => [.row (((hadR p (ordN p by_ i)).flatMap i1).map .p) 3, accB (((ordN p by_ i).flatMap i1).map .p) 3 (ordN p by_ i).length]) (fun g => g ≤ p.bs.length ∧ ∀ j, j < g → oFree p (ordN p by_ i) (oAt p by_ i j) = false) (fun g => p.bs.length - g) 0 ⟨Nat.zero_le _, fun j hj => absurd hj (by omega)⟩ (To.sub (Sub.chk (Sub.cons rfl (Sub.cons rfl (Sub.nil))))) (fun k hg => ?_)
      obtain ⟨hj1, hj2⟩ := hg
      refine AWp.seq ?_
      refine AWp.seq ?_
      refine AWp.region ?_
      refine AList.c 31 rfl rfl rfl (OpJ.move rfl rfl) ?_
      refine AList.c 32 rfl rfl rfl (OpJ.fieldAddr rfl rfl fd24_2 rfl) ?_
      refine AList.c 33 rfl rfl rfl (OpJ.load (v := .p (cotsV p.bs)) rfl rfl ty22 rfl) ?_
      refine AList.c 34 rfl rfl rfl (OpJ.lenSlice rfl rfl sl22 rfl) ?_
      refine AList.c 35 rfl rfl rfl (OpJ.lss rfl rfl rfl) ?_
      refine AList.nil ?_
      refine AWp.cond _ rfl (fun hc1 => ?_) (fun hc1 => ?_)
      · skip
        have hk : k < p.bs.length := by have h := of_decide_eq_true hc1; omega
        have hat := oAt_lt hn0 by_ i k
        have hcl := countI_le (ordN p by_ i) (((oAt p by_ i k) : Nat) : Int) (ordN p by_ i).length
        refine AWp.skip ?_
        refine AWp.seq ?_
        refine AWp.block ?_
        refine AWp.seq ?_
        refine AWp.region ?_
        refine AList.c 38 rfl rfl rfl (OpJ.move rfl rfl) ?_
        refine AList.c 39 rfl rfl rfl (OpJ.move rfl rfl) ?_
        refine AList.c 40 rfl rfl rfl (OpJ.add (m := ((nn by_ (i % by_.length) % p.bs.length + k : Nat) : Int)) rfl rfl rfl ((i64ok ?_).trans ?_)) ?_
        · rw [← hB]; omega
        · rfl
        refine AList.c 41 rfl rfl rfl (OpJ.fieldAddr rfl rfl fd24_2 rfl) ?_
        refine AList.c 42 rfl rfl rfl (OpJ.load (v := .p (cotsV p.bs)) rfl rfl ty22 rfl) ?_
        refine AList.c 43 rfl rfl rfl (OpJ.lenSlice rfl rfl sl22 rfl) ?_
        refine AList.c 44 rfl rfl rfl (OpJ.rem (m := (((oAt p by_ i k) : Nat) : Int)) rfl rfl rfl ?_ ?_) ?_
        · omega
        · exact tmodN _ _
        refine AList.c 10 rfl rfl rfl (OpJ.assign rfl rfl) ?_
        refine AList.nil ?_
        refine AWp.seq ?_
        refine AWp.regionDraw 12 mixed (by kernel_rfl) (by decide) ?_
        refine AQuiet.cons 45 rfl rfl rfl (OpJ.move rfl rfl) ?_
        refine AQuiet.cons 46 rfl rfl rfl (OpJ.move rfl rfl) ?_
        refine AQuiet.cons 47 rfl rfl rfl (OpJ.indexRow rfl rfl rfl sl26 el26 hat) ?_
        refine AQuiet.cons 48 rfl rfl rfl (OpJ.loadFlat (f := i1) (c := 1) (k := (oAt p by_ i k)) (j := 0) (xs := (hadR p (ordN p by_ i))) rfl rfl ty3 rfl rfl (by omega) (fun _ => rfl) (by rw [hadR_len]; exact hat) (by decide) (show _ = PV.int .i64 ((countI (ordN p by_ i) (((oAt p by_ i k) : Nat) : Int) (ordN p by_ i).length : Nat) : Int) from by rw [nt_get _ (by rw [hadR_len]; exact hat), hadR_at p _ hat]; rfl)) ?_
        refine AQuiet.cons 49 rfl rfl rfl (OpJ.fieldAddr rfl rfl fd24_2 rfl) ?_
        refine AQuiet.cons 50 rfl rfl rfl (OpJ.load (v := .p (cotsV p.bs)) rfl rfl ty22 rfl) ?_
        refine AQuiet.cons 51 rfl rfl rfl (OpJ.move rfl rfl) ?_
        refine AQuiet.cons 52 rfl rfl rfl (OpJ.indexG (g := cot p.bs) cot_get rfl rfl rfl sl22 el22 rfl (fun _ => rfl) (by decide) hat) ?_
        refine AQuiet.cons 53 rfl rfl rfl (OpJ.fieldAddr rfl rfl fd52_0 rfl) ?_
        refine AQuiet.cons 54 rfl rfl rfl (OpJ.load (v := .p (spnsV (cot p.bs (oAt p by_ i k)).dry)) rfl rfl ty50 rfl) ?_
        refine AQuiet.cons 55 rfl rfl rfl (OpJ.lenSlice rfl rfl sl50 rfl) ?_
        refine AQuiet.cons 56 rfl rfl rfl (OpJ.lss rfl rfl rfl) ?_
        refine AQuiet.nil ?_
        refine AList.nil ?_
        refine AWp.cond _ rfl (fun hc2 => ?_) (fun hc2 => ?_)
        · skip
          have hf : oFree p (ordN p by_ i) (oAt p by_ i k) = true := decide_eq_true (by have h := of_decide_eq_true hc2; omega)
          have e : (ordN p by_ (i + 1)) = (ordN p by_ i) ++ [(((oAt p by_ i k) : Nat) : Int)] := ordN_T hk hj2 hf
          refine AWp.seq ?_
          refine AWp.region ?_
          refine AList.c 57 rfl rfl rfl (OpJ.move rfl rfl) ?_
          refine AList.c 58 rfl rfl rfl (OpJ.move rfl rfl) ?_
          refine AList.c 59 rfl rfl rfl (OpJ.buildImm rfl slz26 (by decide) rfl rfl rfl) ?_
          refine AList.c 60 rfl rfl rfl (OpJ.appendAcc rfl rfl rfl slz26 sl26 rfl ?_ rfl (by decide) rfl by3 (by decide) ?_) ?_
          · rw [List.length_map, flat_len (c := 1) (fun _ => rfl)]; rfl
          · omega
          refine AList.c 5 rfl rfl rfl (OpJ.assign rfl rfl) ?_
          refine AList.nil ?_
          refine AWp.seq ?_
          refine AWp.region ?_
          refine AList.c 61 rfl rfl rfl (OpJ.move rfl rfl) ?_
          refine AList.c 62 rfl rfl rfl (OpJ.move rfl rfl) ?_
          refine AList.c 63 rfl rfl rfl (OpJ.indexRow rfl rfl rfl sl26 el26 hat) ?_
          refine AList.c 64 rfl rfl rfl (OpJ.loadFlat (f := i1) (c := 1) (k := (oAt p by_ i k)) (j := 0) (xs := (hadR p (ordN p by_ i))) rfl rfl ty3 rfl rfl (by omega) (fun _ => rfl) (by rw [hadR_len]; exact hat) (by decide) (show _ = PV.int .i64 ((countI (ordN p by_ i) (((oAt p by_ i k) : Nat) : Int) (ordN p by_ i).length : Nat) : Int) from by rw [nt_get _ (by rw [hadR_len]; exact hat), hadR_at p _ hat]; rfl)) ?_
          refine AList.c 65 rfl rfl rfl (OpJ.add rfl rfl rfl (i64ok ?_)) ?_
          · omega
          refine AList.c 66 rfl rfl rfl (OpJ.indexRow rfl rfl rfl sl26 el26 hat) ?_
          refine AList.c0 rfl rfl (OpJ.storeRow (f := i1) (c := 1) (k := (oAt p by_ i k)) (j := 0) (xs := (hadR p (ordN p by_ i))) (z := (((countI (ordN p by_ i) (((oAt p by_ i k) : Nat) : Int) (ordN p by_ i).length : Nat) : Int) + 1)) (ws := [_]) rfl rfl rfl rfl rfl ty3 rfl rfl rfl (by omega) (fun _ => rfl) (by rw [hadR_len]; exact hat) (Nat.le_refl _) rfl) ?_
          refine AList.nil ?_
          refine AWp.exit ?_
          refine ⟨(), trivial, ?_⟩
          rw [e, hadR_snoc p _ hat, List.length_append]
          refine To.done [0, 2] rfl (Sub.cons rfl (Sub.cons rfl (Sub.cons rfl (Sub.cons rfl (Sub.cons rfl Sub.nil))))) ?_
          show [Blk.row (renL _ (List.map V.p _)) _, Blk.row (renL _ (List.map V.p _ ++ _)) _] = _
          rw [renL_pure, renL_app, renL_pure, List.flatMap_append, List.map_append]
          rfl
        · skip
          have hf : oFree p (ordN p by_ i) (oAt p by_ i k) = false := decide_eq_false (by have h := of_decide_eq_false hc2; omega)
          refine AWp.skip ?_
          refine AWp.region ?_
          refine AList.c 36 rfl rfl rfl (OpJ.move rfl rfl) ?_
          refine AList.c 37 rfl rfl rfl (OpJ.add rfl rfl rfl (i64ok ?_)) ?_
          · omega
          refine AList.c 9 rfl rfl rfl (OpJ.assign rfl rfl) ?_
          refine AList.nil ?_
          refine ⟨k + 1, ?_, ?_, ?_⟩
          · refine ⟨by omega, fun j hj => ?_⟩
            rcases Nat.lt_succ_iff_lt_or_eq.1 hj with h1 | rfl
            · exact hj2 j h1
            · exact hf
          · omega
          exact To.sub (Sub.cons rfl (Sub.cons rfl (by repeat (first | exact Sub.nil | refine Sub.cons rfl ?_))))
      · skip
        obtain rfl : k = p.bs.length := by have h := of_decide_eq_false hc1; omega
        have e : (ordN p by_ (i + 1)) = (ordN p by_ i) := ordN_F hj2
        refine AWp.exit ?_
        refine ⟨(), trivial, ?_⟩
        rw [e]
        exact To.sub (Sub.cons rfl (Sub.cons rfl (Sub.cons rfl (Sub.cons rfl (Sub.cons rfl Sub.nil)))))
    · skip
      refine AWp.region ?_
      refine AList.c 17 rfl rfl rfl (OpJ.move rfl rfl) ?_
      refine AList.c 18 rfl rfl rfl (OpJ.add rfl rfl rfl (i64ok ?_)) ?_
      · omega
      refine AList.c 7 rfl rfl rfl (OpJ.assign rfl rfl) ?_
      refine AList.nil ?_
      refine ⟨i + 1, ?_, ?_, ?_⟩
      · omega
      · omega
      exact To.sub (Sub.cons rfl (Sub.cons rfl (by repeat (first | exact Sub.nil | refine Sub.cons rfl ?_))))
  · skip
    obtain rfl : i = 9 := by have h := of_decide_eq_false hc0; omega
    refine AWp.exit ?_
    refine AWp.seq ?_
    refine AWp.region ?_
    refine AList.c 67 rfl rfl rfl (OpJ.move rfl rfl) ?_
    refine AList.c 4 rfl rfl rfl (OpJ.assign rfl rfl) ?_
    refine AList.nil ?_
    refine AWp.to (To.accD 4 1 (ordN p by_ 9).length (xs := (ordN p by_ 9).flatMap i1) rfl rfl nil_of0) ?_
    refine AWp.ret ?_
    exact Fin.oneE rfl rfl rfl
theorem times_0C {p : Pnt} {o : List Int} (hb : p.bs.length ≤ 8) (hbd : ∀ b ∈ p.bs, b.dry.length ≤ 14) (ho : o.length ≤ 1000) (h : (timesR p o).2.2 = 0) : Pure Try.prog 13 [pntV p, intsV o] (.tuple [intsV (hrs p o o.length), .int .i64 (o.length : Int), .int .i64 0]) := by
  obtain ⟨_, _, _, et⟩ := times_0 h
  have h2 := times_ok p o hb hbd ho
  rw [et] at h2
  exact h2
theorem times_EC {p : Pnt} {o : List Int} (hb : p.bs.length ≤ 8) (hbd : ∀ b ∈ p.bs, b.dry.length ≤ 14) (ho : o.length ≤ 1000) (h : ¬ (timesR p o).2.2 = 0) : Pure Try.prog 13 [pntV p, intsV o] (.tuple [.nilSlice, .int .i64 (timesR p o).2.1, .int .i64 (timesR p o).2.2]) := by
  have h2 := times_ok p o hb hbd ho
  have e : tmL (timesR p o) = .nilSlice := if_neg h
  unfold tmV at h2
  rw [e] at h2
  exact h2
theorem lDips_0 (p : Pnt) (o : List Int) (hb : p.bs.length ≤ 8) (hbd : ∀ b ∈ p.bs, b.dry.length ≤ 14) (h : (timesR p o).2.2 = 0) (ho : o.length ≤ 1000) : ACalls Try.prog 22 ([pntV p, intsV o].map .p) [] fun v H' => v = tupOf (accV 0 (o.length) :: [PV.bool true].map .p) ∧ H' = [accB (((mkD p o (o.length)).flatMap Dp.cells).map .p) 49 (o.length)] := by
  obtain ⟨hT, hall, _, _⟩ := times_0 h
  have hhl := hrs_len p o o.length
  refine ACalls.start (N := 52) Try.func22 rfl rfl (Nat.le_of_ble_eq_true rfl) ?_
  refine AWp.seq ?_
  refine AWp.region ?_
  refine AList.c 2 rfl rfl rfl (OpJ.boxImm rfl rfl rfl) ?_
  refine AList.c 4 rfl rfl rfl (OpJ.assign rfl rfl) ?_
  refine AList.c 5 rfl rfl rfl (OpJ.assign rfl rfl) ?_
  refine AList.nil ?_
  refine AWp.seq ?_
  refine AWp.region ?_
  refine AList.c 12 rfl rfl rfl (OpJ.load (v := .p (pntV p)) rfl rfl ty24 rfl) ?_
  refine AList.c 13 rfl rfl rfl (OpJ.move rfl rfl) ?_
  refine AList.c 14 rfl rfl rfl (OpJ.callP (times_0C hb hbd ho h) rfl rfl rfl rfl rf13) ?_
  refine AList.c 11 rfl rfl rfl (OpJ.move rfl rfl) ?_
  refine AList.c 15 rfl rfl rfl (OpJ.extract rfl rfl rfl) ?_
  refine AList.c 16 rfl rfl rfl (OpJ.extract rfl rfl rfl) ?_
  refine AList.c 17 rfl rfl rfl (OpJ.extract rfl rfl rfl) ?_
  refine AList.c 6 rfl rfl rfl (OpJ.assign rfl rfl) ?_
  refine AList.c 7 rfl rfl rfl (OpJ.assign rfl rfl) ?_
  refine AList.c 8 rfl rfl rfl (OpJ.assign rfl rfl) ?_
  refine AList.nil ?_
  refine AWp.seq ?_
  refine AWp.seq ?_
  refine AWp.region ?_
  refine AList.c 18 rfl rfl rfl (OpJ.move rfl rfl) ?_
  refine AList.c 19 rfl rfl rfl (OpJ.neq rfl rfl rfl) ?_
  refine AList.c 20 rfl rfl rfl (OpJ.move rfl rfl) ?_
  refine AList.g 21 20 rfl rfl rfl rfl rfl rfl rfl [(7, _)] (fun h => And.intro (.inl rfl) (trivial)) (fun h => (OpJ.move rfl rfl)) ?_
  refine AList.g 22 20 rfl rfl rfl rfl rfl rfl rfl [(1, _)] (fun h => And.intro (.inl rfl) (trivial)) (fun h => (OpJ.move rfl rfl)) ?_
  refine AList.g 23 20 rfl rfl rfl rfl rfl rfl rfl [(22, _)] (fun h => And.intro (.inr ⟨_, rfl, h⟩) (trivial)) (fun h => (OpJ.lenSlice rfl rfl sl26 rfl)) ?_
  refine AList.g 24 20 rfl rfl rfl rfl rfl rfl rfl [(21, _), (23, _)] (fun h => And.intro (.inr ⟨_, rfl, h⟩) (And.intro (.inr ⟨_, rfl, h⟩) (trivial))) (fun h => (OpJ.neq rfl rfl rfl)) ?_
  refine AList.c 25 rfl rfl rfl (OpJ.or_ rfl rfl rfl ?_) ?_
  · first | (intro h; rw [h]; rfl) | (intro h; simp_all)
  refine AList.c 26 rfl rfl rfl (OpJ.move rfl rfl) ?_
  refine AList.g 27 26 rfl rfl rfl rfl rfl rfl rfl [(6, _)] (fun h => And.intro (.inl rfl) (trivial)) (fun h => (OpJ.move rfl rfl)) ?_
  refine AList.g 28 26 rfl rfl rfl rfl rfl rfl rfl [(27, _)] (fun h => And.intro (.inr ⟨_, rfl, h⟩) (trivial)) (fun h => (OpJ.lenSlice rfl rfl sl26 rfl)) ?_
  refine AList.g 29 26 rfl rfl rfl rfl rfl rfl rfl [(1, _)] (fun h => And.intro (.inl rfl) (trivial)) (fun h => (OpJ.move rfl rfl)) ?_
  refine AList.g 30 26 rfl rfl rfl rfl rfl rfl rfl [(29, _)] (fun h => And.intro (.inr ⟨_, rfl, h⟩) (trivial)) (fun h => (OpJ.lenSlice rfl rfl sl26 rfl)) ?_
  refine AList.g 31 26 rfl rfl rfl rfl rfl rfl rfl [(28, _), (30, _)] (fun h => And.intro (.inr ⟨_, rfl, h⟩) (And.intro (.inr ⟨_, rfl, h⟩) (trivial))) (fun h => (OpJ.neq rfl rfl rfl)) ?_
  refine AList.c 32 rfl rfl rfl (OpJ.or_ rfl rfl rfl ?_) ?_
  · first | (intro h; rw [h]; rfl) | (intro h; simp_all)
  refine AList.nil ?_
  refine AWp.cond _ rfl (fun hc0 => ?_) (fun hc0 => ?_)
  · skip
    exfalso
    simp [hhl] at hc0
  · skip
    refine AWp.skip ?_
    refine AWp.seq ?_
    refine AWp.region ?_
    refine AList.c 9 rfl rfl rfl (OpJ.assign rfl rfl) ?_
    refine AList.nil ?_
    refine AWp.seq ?_
    refine AWp.seq ?_
    refine AWp.region ?_
    refine AList.c 10 rfl rfl rfl (OpJ.assign rfl rfl) ?_
    refine AList.nil ?_
    refine AWp.block ?_
    refine AWp.to To.pad ?_
    refine AWp.loopHL [1, 6, 51] (fun g => [(10, .p (.int .i64 ((g : Nat) : Int))), (9, accV 0 g)]) (fun g => [accB (((mkD p o g).flatMap Dp.cells).map .p) 49 g]) (fun g => g ≤ o.length) (fun g => o.length - g) 0 (Nat.zero_le _) (To.sub (Sub.chk (Sub.cons rfl (Sub.cons rfl (Sub.nil))))) (fun i hg => ?_)
    refine AWp.seq ?_
    refine AWp.seq ?_
    refine AWp.region ?_
    refine AList.c 33 rfl rfl rfl (OpJ.move rfl rfl) ?_
    refine AList.c 34 rfl rfl rfl (OpJ.move rfl rfl) ?_
    refine AList.c 35 rfl rfl rfl (OpJ.lenSlice rfl rfl sl26 rfl) ?_
    refine AList.c 36 rfl rfl rfl (OpJ.lss rfl rfl rfl) ?_
    refine AList.nil ?_
    refine AWp.cond _ rfl (fun hc1 => ?_) (fun hc1 => ?_)
    · skip
      have hk0 : i < o.length := by have h := of_decide_eq_true hc1; omega
      have hhr : nt (hrs p o o.length) i = hrI p o i := hrs_get p o hk0
      refine AWp.skip ?_
      refine AWp.seq ?_
      refine AWp.block ?_
      refine AWp.regionDraw 11 mixed (by kernel_rfl) (by decide) ?_
      refine AQuiet.cons 39 rfl rfl rfl (OpJ.move rfl rfl) ?_
      refine AQuiet.cons 40 rfl rfl rfl (OpJ.move rfl rfl) ?_
      refine AQuiet.cons 41 rfl rfl rfl (OpJ.move rfl rfl) ?_
      refine AQuiet.cons 42 rfl rfl rfl (OpJ.indexG (g := nt o) nt_get rfl rfl rfl sl26 el26 rfl (fun _ => rfl) (by decide) hk0) ?_
      refine AQuiet.cons 43 rfl rfl rfl (OpJ.load (v := .p (.int .i64 (nt o i))) rfl rfl ty3 rfl) ?_
      refine AQuiet.cons 44 rfl rfl rfl (OpJ.move rfl rfl) ?_
      refine AQuiet.cons 45 rfl rfl rfl (OpJ.move rfl rfl) ?_
      refine AQuiet.cons 46 rfl rfl rfl (OpJ.indexG (g := nt (hrs p o o.length)) nt_get rfl rfl rfl sl26 el26 rfl (fun _ => rfl) (by decide) (by rw [hrs_len]; exact hk0)) ?_
      refine AQuiet.cons 47 rfl rfl rfl (OpJ.load (v := .p (.int .i64 (hrI p o i))) rfl rfl ty3 (congrArg (fun z => some (V.p (PV.int .i64 z))) hhr)) ?_
      refine AQuiet.cons 48 rfl rfl rfl (OpJ.buildR (v := .p (.agg [.int .i64 (nt o i), .int .i64 (hrI p o i)])) rfl bd49 rfl rfl rfl) ?_
      refine AQuiet.cons 49 rfl rfl rfl (OpJ.buildImm rfl slz25 (by decide) rfl rfl rfl) ?_
      refine AQuiet.nil ?_
      refine AList.c 50 rfl rfl rfl (OpJ.appendAcc rfl rfl rfl slz25 sl25 rfl ?_ rfl (by decide) rfl by49 (by decide) ?_) ?_
      · rw [List.length_map, flat_len (c := 2) (fun _ => rfl), mkD_len]; rfl
      · omega
      refine AList.c 9 rfl rfl rfl (OpJ.assign rfl rfl) ?_
      refine AList.nil ?_
      refine AWp.region ?_
      refine AList.c 37 rfl rfl rfl (OpJ.move rfl rfl) ?_
      refine AList.c 38 rfl rfl rfl (OpJ.add rfl rfl rfl (i64ok ?_)) ?_
      · omega
      refine AList.c 10 rfl rfl rfl (OpJ.assign rfl rfl) ?_
      refine AList.nil ?_
      refine ⟨i + 1, ?_, ?_, ?_⟩
      · omega
      · omega
      refine To.done [1] rfl (by repeat (first | exact Sub.nil | refine Sub.cons rfl ?_)) ?_
      show [Blk.row (renL _ (_ ++ _)) _] = _
      rw [renL_app, renL_pure, mkD_S, List.flatMap_append, List.map_append]
      rfl
    · skip
      obtain rfl : i = o.length := by have h := of_decide_eq_false hc1; omega
      refine AWp.exit ?_
      refine AWp.seq ?_
      refine AWp.region ?_
      refine AList.c 51 rfl rfl rfl (OpJ.move rfl rfl) ?_
      refine AList.c 4 rfl rfl rfl (OpJ.assign rfl rfl) ?_
      refine AList.c 5 rfl rfl rfl (OpJ.assign rfl rfl) ?_
      refine AList.nil ?_
      refine AWp.ret ?_
      exact ⟨.inr rfl, _, resV.many (vs := [accV 0 o.length, .p (.bool true)]) rfl (⟨_, _, rfl, rfl, ⟨_, _, rfl, rfl, rfl⟩⟩), rfl, rfl⟩
theorem lDips_E (p : Pnt) (o : List Int) (hb : p.bs.length ≤ 8) (hbd : ∀ b ∈ p.bs, b.dry.length ≤ 14) (h : ¬ (timesR p o).2.2 = 0) (ho : o.length ≤ 1000) : ACalls Try.prog 22 ([pntV p, intsV o].map .p) [] fun v H' => v = tupOf (accV 0 (0) :: [PV.bool false].map .p) ∧ H' = [accB (((mkD p o (0)).flatMap Dp.cells).map .p) 49 (0)] := by
  refine ACalls.start (N := 52) Try.func22 rfl rfl (Nat.le_of_ble_eq_true rfl) ?_
  refine AWp.seq ?_
  refine AWp.region ?_
  refine AList.c 2 rfl rfl rfl (OpJ.boxImm rfl rfl rfl) ?_
  refine AList.c 4 rfl rfl rfl (OpJ.assign rfl rfl) ?_
  refine AList.c 5 rfl rfl rfl (OpJ.assign rfl rfl) ?_
  refine AList.nil ?_
  refine AWp.seq ?_
  refine AWp.region ?_
  refine AList.c 12 rfl rfl rfl (OpJ.load (v := .p (pntV p)) rfl rfl ty24 rfl) ?_
  refine AList.c 13 rfl rfl rfl (OpJ.move rfl rfl) ?_
  refine AList.c 14 rfl rfl rfl (OpJ.callP (times_EC hb hbd ho h) rfl rfl rfl rfl rf13) ?_
  refine AList.c 11 rfl rfl rfl (OpJ.move rfl rfl) ?_
  refine AList.c 15 rfl rfl rfl (OpJ.extract rfl rfl rfl) ?_
  refine AList.c 16 rfl rfl rfl (OpJ.extract rfl rfl rfl) ?_
  refine AList.c 17 rfl rfl rfl (OpJ.extract rfl rfl rfl) ?_
  refine AList.c 6 rfl rfl rfl (OpJ.assign rfl rfl) ?_
  refine AList.c 7 rfl rfl rfl (OpJ.assign rfl rfl) ?_
  refine AList.c 8 rfl rfl rfl (OpJ.assign rfl rfl) ?_
  refine AList.nil ?_
  refine AWp.seq ?_
  refine AWp.seq ?_
  refine AWp.region ?_
  refine AList.c 18 rfl rfl rfl (OpJ.move rfl rfl) ?_
  refine AList.c 19 rfl rfl rfl (OpJ.neq rfl rfl rfl) ?_
  refine AList.c 20 rfl rfl rfl (OpJ.move rfl rfl) ?_
  refine AList.g 21 20 rfl rfl rfl rfl rfl rfl rfl [(7, _)] (fun h => And.intro (.inl rfl) (trivial)) (fun h => (OpJ.move rfl rfl)) ?_
  refine AList.g 22 20 rfl rfl rfl rfl rfl rfl rfl [(1, _)] (fun h => And.intro (.inl rfl) (trivial)) (fun h => (OpJ.move rfl rfl)) ?_
  refine AList.g 23 20 rfl rfl rfl rfl rfl rfl rfl [(22, _)] (fun h => And.intro (.inr ⟨_, rfl, h⟩) (trivial)) (fun h => (OpJ.lenSlice rfl rfl sl26 rfl)) ?_
  refine AList.g 24 20 rfl rfl rfl rfl rfl rfl rfl [(21, _), (23, _)] (fun h => And.intro (.inr ⟨_, rfl, h⟩) (And.intro (.inr ⟨_, rfl, h⟩) (trivial))) (fun h => (OpJ.neq rfl rfl rfl)) ?_
  refine AList.c 25 rfl rfl rfl (OpJ.or_ rfl rfl rfl ?_) ?_
  · first | (intro h; rw [h]; rfl) | (intro h; simp_all)
  refine AList.c 26 rfl rfl rfl (OpJ.move rfl rfl) ?_
  refine AList.g 27 26 rfl rfl rfl rfl rfl rfl rfl [(6, _)] (fun h => And.intro (.inl rfl) (trivial)) (fun h => (OpJ.move rfl rfl)) ?_
  refine AList.g 28 26 rfl rfl rfl rfl rfl rfl rfl [(27, _)] (fun h => And.intro (.inr ⟨_, rfl, h⟩) (trivial)) (fun h => (OpJ.lenSlice rfl rfl sl26 rfl)) ?_
  refine AList.g 29 26 rfl rfl rfl rfl rfl rfl rfl [(1, _)] (fun h => And.intro (.inl rfl) (trivial)) (fun h => (OpJ.move rfl rfl)) ?_
  refine AList.g 30 26 rfl rfl rfl rfl rfl rfl rfl [(29, _)] (fun h => And.intro (.inr ⟨_, rfl, h⟩) (trivial)) (fun h => (OpJ.lenSlice rfl rfl sl26 rfl)) ?_
  refine AList.g 31 26 rfl rfl rfl rfl rfl rfl rfl [(28, _), (30, _)] (fun h => And.intro (.inr ⟨_, rfl, h⟩) (And.intro (.inr ⟨_, rfl, h⟩) (trivial))) (fun h => (OpJ.neq rfl rfl rfl)) ?_
  refine AList.c 32 rfl rfl rfl (OpJ.or_ rfl rfl rfl ?_) ?_
  · first | (intro h; rw [h]; rfl) | (intro h; simp_all)
  refine AList.nil ?_
  refine AWp.cond _ rfl (fun hc0 => ?_) (fun hc0 => ?_)
  · skip
    refine AWp.seq ?_
    refine AWp.region ?_
    refine AList.c 4 rfl rfl rfl (OpJ.assign rfl rfl) ?_
    refine AList.c 5 rfl rfl rfl (OpJ.assign rfl rfl) ?_
    refine AList.nil ?_
    refine AWp.to To.pad ?_
    refine AWp.ret ?_
    exact ⟨.inr rfl, _, resV.many (vs := [.p .nilSlice, .p (.bool false)]) rfl (⟨_, _, rfl, rfl, ⟨_, _, rfl, rfl, rfl⟩⟩), rfl, rfl⟩
  · skip
    exfalso
    simp [h] at hc0
theorem lDips_N (p : Pnt) (o : List Int) (hb : p.bs.length ≤ 8) (hbd : ∀ b ∈ p.bs, b.dry.length ≤ 14) (h : ¬ (timesR p o).2.2 = 0) (ho : o.length ≤ 1000) : Pure Try.prog 22 [pntV p, intsV o] (.tuple [.nilSlice, .bool false]) := by
  refine Pure.start (N := 52) Try.func22 rfl rfl (Nat.le_of_ble_eq_true rfl) ?_
  refine AWp.seq ?_
  refine AWp.region ?_
  refine AList.c 2 rfl rfl rfl (OpJ.boxImm rfl rfl rfl) ?_
  refine AList.c 4 rfl rfl rfl (OpJ.assign rfl rfl) ?_
  refine AList.c 5 rfl rfl rfl (OpJ.assign rfl rfl) ?_
  refine AList.nil ?_
  refine AWp.seq ?_
  refine AWp.region ?_
  refine AList.c 12 rfl rfl rfl (OpJ.load (v := .p (pntV p)) rfl rfl ty24 rfl) ?_
  refine AList.c 13 rfl rfl rfl (OpJ.move rfl rfl) ?_
  refine AList.c 14 rfl rfl rfl (OpJ.callP (times_EC hb hbd ho h) rfl rfl rfl rfl rf13) ?_
  refine AList.c 11 rfl rfl rfl (OpJ.move rfl rfl) ?_
  refine AList.c 15 rfl rfl rfl (OpJ.extract rfl rfl rfl) ?_
  refine AList.c 16 rfl rfl rfl (OpJ.extract rfl rfl rfl) ?_
  refine AList.c 17 rfl rfl rfl (OpJ.extract rfl rfl rfl) ?_
  refine AList.c 6 rfl rfl rfl (OpJ.assign rfl rfl) ?_
  refine AList.c 7 rfl rfl rfl (OpJ.assign rfl rfl) ?_
  refine AList.c 8 rfl rfl rfl (OpJ.assign rfl rfl) ?_
  refine AList.nil ?_
  refine AWp.seq ?_
  refine AWp.seq ?_
  refine AWp.region ?_
  refine AList.c 18 rfl rfl rfl (OpJ.move rfl rfl) ?_
  refine AList.c 19 rfl rfl rfl (OpJ.neq rfl rfl rfl) ?_
  refine AList.c 20 rfl rfl rfl (OpJ.move rfl rfl) ?_
  refine AList.g 21 20 rfl rfl rfl rfl rfl rfl rfl [(7, _)] (fun h => And.intro (.inl rfl) (trivial)) (fun h => (OpJ.move rfl rfl)) ?_
  refine AList.g 22 20 rfl rfl rfl rfl rfl rfl rfl [(1, _)] (fun h => And.intro (.inl rfl) (trivial)) (fun h => (OpJ.move rfl rfl)) ?_
  refine AList.g 23 20 rfl rfl rfl rfl rfl rfl rfl [(22, _)] (fun h => And.intro (.inr ⟨_, rfl, h⟩) (trivial)) (fun h => (OpJ.lenSlice rfl rfl sl26 rfl)) ?_
  refine AList.g 24 20 rfl rfl rfl rfl rfl rfl rfl [(21, _), (23, _)] (fun h => And.intro (.inr ⟨_, rfl, h⟩) (And.intro (.inr ⟨_, rfl, h⟩) (trivial))) (fun h => (OpJ.neq rfl rfl rfl)) ?_
  refine AList.c 25 rfl rfl rfl (OpJ.or_ rfl rfl rfl ?_) ?_
  · first | (intro h; rw [h]; rfl) | (intro h; simp_all)
  refine AList.c 26 rfl rfl rfl (OpJ.move rfl rfl) ?_
  refine AList.g 27 26 rfl rfl rfl rfl rfl rfl rfl [(6, _)] (fun h => And.intro (.inl rfl) (trivial)) (fun h => (OpJ.move rfl rfl)) ?_
  refine AList.g 28 26 rfl rfl rfl rfl rfl rfl rfl [(27, _)] (fun h => And.intro (.inr ⟨_, rfl, h⟩) (trivial)) (fun h => (OpJ.lenSlice rfl rfl sl26 rfl)) ?_
  refine AList.g 29 26 rfl rfl rfl rfl rfl rfl rfl [(1, _)] (fun h => And.intro (.inl rfl) (trivial)) (fun h => (OpJ.move rfl rfl)) ?_
  refine AList.g 30 26 rfl rfl rfl rfl rfl rfl rfl [(29, _)] (fun h => And.intro (.inr ⟨_, rfl, h⟩) (trivial)) (fun h => (OpJ.lenSlice rfl rfl sl26 rfl)) ?_
  refine AList.g 31 26 rfl rfl rfl rfl rfl rfl rfl [(28, _), (30, _)] (fun h => And.intro (.inr ⟨_, rfl, h⟩) (And.intro (.inr ⟨_, rfl, h⟩) (trivial))) (fun h => (OpJ.neq rfl rfl rfl)) ?_
  refine AList.c 32 rfl rfl rfl (OpJ.or_ rfl rfl rfl ?_) ?_
  · first | (intro h; rw [h]; rfl) | (intro h; simp_all)
  refine AList.nil ?_
  refine AWp.cond _ rfl (fun hc0 => ?_) (fun hc0 => ?_)
  · skip
    refine AWp.seq ?_
    refine AWp.region ?_
    refine AList.c 4 rfl rfl rfl (OpJ.assign rfl rfl) ?_
    refine AList.c 5 rfl rfl rfl (OpJ.assign rfl rfl) ?_
    refine AList.nil ?_
    refine AWp.ret ?_
    exact Fin.manyE (xs := [.nilSlice, .bool false]) rfl (⟨_, _, rfl, rfl, ⟨_, _, rfl, rfl, rfl⟩⟩) rfl rfl
  · skip
    exfalso
    simp [h] at hc0
theorem lDips_P (p : Pnt) (o : List Int) (hb : p.bs.length ≤ 8) (hbd : ∀ b ∈ p.bs, b.dry.length ≤ 14) (h : (timesR p o).2.2 = 0) (ho : o.length ≤ 1000) : Pure Try.prog 22 [pntV p, intsV o] (.tuple [dpsV (mkD p o o.length), .bool true]) := by
  obtain ⟨hT, hall, _, _⟩ := times_0 h
  have hhl := hrs_len p o o.length
  refine Pure.start (N := 52) Try.func22 rfl rfl (Nat.le_of_ble_eq_true rfl) ?_
  refine AWp.seq ?_
  refine AWp.region ?_
  refine AList.c 2 rfl rfl rfl (OpJ.boxImm rfl rfl rfl) ?_
  refine AList.c 4 rfl rfl rfl (OpJ.assign rfl rfl) ?_
  refine AList.c 5 rfl rfl rfl (OpJ.assign rfl rfl) ?_
  refine AList.nil ?_
  refine AWp.seq ?_
  refine AWp.region ?_
  refine AList.c 12 rfl rfl rfl (OpJ.load (v := .p (pntV p)) rfl rfl ty24 rfl) ?_
  refine AList.c 13 rfl rfl rfl (OpJ.move rfl rfl) ?_
  refine AList.c 14 rfl rfl rfl (OpJ.callP (times_0C hb hbd ho h) rfl rfl rfl rfl rf13) ?_
  refine AList.c 11 rfl rfl rfl (OpJ.move rfl rfl) ?_
  refine AList.c 15 rfl rfl rfl (OpJ.extract rfl rfl rfl) ?_
  refine AList.c 16 rfl rfl rfl (OpJ.extract rfl rfl rfl) ?_
  refine AList.c 17 rfl rfl rfl (OpJ.extract rfl rfl rfl) ?_
  refine AList.c 6 rfl rfl rfl (OpJ.assign rfl rfl) ?_
  refine AList.c 7 rfl rfl rfl (OpJ.assign rfl rfl) ?_
  refine AList.c 8 rfl rfl rfl (OpJ.assign rfl rfl) ?_
  refine AList.nil ?_
  refine AWp.seq ?_
  refine AWp.seq ?_
  refine AWp.region ?_
  refine AList.c 18 rfl rfl rfl (OpJ.move rfl rfl) ?_
  refine AList.c 19 rfl rfl rfl (OpJ.neq rfl rfl rfl) ?_
  refine AList.c 20 rfl rfl rfl (OpJ.move rfl rfl) ?_
  refine AList.g 21 20 rfl rfl rfl rfl rfl rfl rfl [(7, _)] (fun h => And.intro (.inl rfl) (trivial)) (fun h => (OpJ.move rfl rfl)) ?_
  refine AList.g 22 20 rfl rfl rfl rfl rfl rfl rfl [(1, _)] (fun h => And.intro (.inl rfl) (trivial)) (fun h => (OpJ.move rfl rfl)) ?_
  refine AList.g 23 20 rfl rfl rfl rfl rfl rfl rfl [(22, _)] (fun h => And.intro (.inr ⟨_, rfl, h⟩) (trivial)) (fun h => (OpJ.lenSlice rfl rfl sl26 rfl)) ?_
  refine AList.g 24 20 rfl rfl rfl rfl rfl rfl rfl [(21, _), (23, _)] (fun h => And.intro (.inr ⟨_, rfl, h⟩) (And.intro (.inr ⟨_, rfl, h⟩) (trivial))) (fun h => (OpJ.neq rfl rfl rfl)) ?_
  refine AList.c 25 rfl rfl rfl (OpJ.or_ rfl rfl rfl ?_) ?_
  · first | (intro h; rw [h]; rfl) | (intro h; simp_all)
  refine AList.c 26 rfl rfl rfl (OpJ.move rfl rfl) ?_
  refine AList.g 27 26 rfl rfl rfl rfl rfl rfl rfl [(6, _)] (fun h => And.intro (.inl rfl) (trivial)) (fun h => (OpJ.move rfl rfl)) ?_
  refine AList.g 28 26 rfl rfl rfl rfl rfl rfl rfl [(27, _)] (fun h => And.intro (.inr ⟨_, rfl, h⟩) (trivial)) (fun h => (OpJ.lenSlice rfl rfl sl26 rfl)) ?_
  refine AList.g 29 26 rfl rfl rfl rfl rfl rfl rfl [(1, _)] (fun h => And.intro (.inl rfl) (trivial)) (fun h => (OpJ.move rfl rfl)) ?_
  refine AList.g 30 26 rfl rfl rfl rfl rfl rfl rfl [(29, _)] (fun h => And.intro (.inr ⟨_, rfl, h⟩) (trivial)) (fun h => (OpJ.lenSlice rfl rfl sl26 rfl)) ?_
  refine AList.g 31 26 rfl rfl rfl rfl rfl rfl rfl [(28, _), (30, _)] (fun h => And.intro (.inr ⟨_, rfl, h⟩) (And.intro (.inr ⟨_, rfl, h⟩) (trivial))) (fun h => (OpJ.neq rfl rfl rfl)) ?_
  refine AList.c 32 rfl rfl rfl (OpJ.or_ rfl rfl rfl ?_) ?_
  · first | (intro h; rw [h]; rfl) | (intro h; simp_all)
  refine AList.nil ?_
  refine AWp.cond _ rfl (fun hc0 => ?_) (fun hc0 => ?_)
  · skip
    exfalso
    simp [hhl] at hc0
  · skip
    refine AWp.skip ?_
    refine AWp.seq ?_
    refine AWp.region ?_
    refine AList.c 9 rfl rfl rfl (OpJ.assign rfl rfl) ?_
    refine AList.nil ?_
    refine AWp.seq ?_
    refine AWp.seq ?_
    refine AWp.region ?_
    refine AList.c 10 rfl rfl rfl (OpJ.assign rfl rfl) ?_
    refine AList.nil ?_
    refine AWp.block ?_
    refine AWp.to To.pad ?_
    refine AWp.loopHL [1, 6, 51] (fun g => [(10, .p (.int .i64 ((g : Nat) : Int))), (9, accV 0 g)]) (fun g => [accB (((mkD p o g).flatMap Dp.cells).map .p) 49 g]) (fun g => g ≤ o.length) (fun g => o.length - g) 0 (Nat.zero_le _) (To.sub (Sub.chk (Sub.cons rfl (Sub.cons rfl (Sub.nil))))) (fun i hg => ?_)
    refine AWp.seq ?_
    refine AWp.seq ?_
    refine AWp.region ?_
    refine AList.c 33 rfl rfl rfl (OpJ.move rfl rfl) ?_
    refine AList.c 34 rfl rfl rfl (OpJ.move rfl rfl) ?_
    refine AList.c 35 rfl rfl rfl (OpJ.lenSlice rfl rfl sl26 rfl) ?_
    refine AList.c 36 rfl rfl rfl (OpJ.lss rfl rfl rfl) ?_
    refine AList.nil ?_
    refine AWp.cond _ rfl (fun hc1 => ?_) (fun hc1 => ?_)
    · skip
      have hk0 : i < o.length := by have h := of_decide_eq_true hc1; omega
      have hhr : nt (hrs p o o.length) i = hrI p o i := hrs_get p o hk0
      refine AWp.skip ?_
      refine AWp.seq ?_
      refine AWp.block ?_
      refine AWp.regionDraw 11 mixed (by kernel_rfl) (by decide) ?_
      refine AQuiet.cons 39 rfl rfl rfl (OpJ.move rfl rfl) ?_
      refine AQuiet.cons 40 rfl rfl rfl (OpJ.move rfl rfl) ?_
      refine AQuiet.cons 41 rfl rfl rfl (OpJ.move rfl rfl) ?_
      refine AQuiet.cons 42 rfl rfl rfl (OpJ.indexG (g := nt o) nt_get rfl rfl rfl sl26 el26 rfl (fun _ => rfl) (by decide) hk0) ?_
      refine AQuiet.cons 43 rfl rfl rfl (OpJ.load (v := .p (.int .i64 (nt o i))) rfl rfl ty3 rfl) ?_
      refine AQuiet.cons 44 rfl rfl rfl (OpJ.move rfl rfl) ?_
      refine AQuiet.cons 45 rfl rfl rfl (OpJ.move rfl rfl) ?_
      refine AQuiet.cons 46 rfl rfl rfl (OpJ.indexG (g := nt (hrs p o o.length)) nt_get rfl rfl rfl sl26 el26 rfl (fun _ => rfl) (by decide) (by rw [hrs_len]; exact hk0)) ?_
      refine AQuiet.cons 47 rfl rfl rfl (OpJ.load (v := .p (.int .i64 (hrI p o i))) rfl rfl ty3 (congrArg (fun z => some (V.p (PV.int .i64 z))) hhr)) ?_
      refine AQuiet.cons 48 rfl rfl rfl (OpJ.buildR (v := .p (.agg [.int .i64 (nt o i), .int .i64 (hrI p o i)])) rfl bd49 rfl rfl rfl) ?_
      refine AQuiet.cons 49 rfl rfl rfl (OpJ.buildImm rfl slz25 (by decide) rfl rfl rfl) ?_
      refine AQuiet.nil ?_
      refine AList.c 50 rfl rfl rfl (OpJ.appendAcc rfl rfl rfl slz25 sl25 rfl ?_ rfl (by decide) rfl by49 (by decide) ?_) ?_
      · rw [List.length_map, flat_len (c := 2) (fun _ => rfl), mkD_len]; rfl
      · omega
      refine AList.c 9 rfl rfl rfl (OpJ.assign rfl rfl) ?_
      refine AList.nil ?_
      refine AWp.region ?_
      refine AList.c 37 rfl rfl rfl (OpJ.move rfl rfl) ?_
      refine AList.c 38 rfl rfl rfl (OpJ.add rfl rfl rfl (i64ok ?_)) ?_
      · omega
      refine AList.c 10 rfl rfl rfl (OpJ.assign rfl rfl) ?_
      refine AList.nil ?_
      refine ⟨i + 1, ?_, ?_, ?_⟩
      · omega
      · omega
      refine To.done [1] rfl (by repeat (first | exact Sub.nil | refine Sub.cons rfl ?_)) ?_
      show [Blk.row (renL _ (_ ++ _)) _] = _
      rw [renL_app, renL_pure, mkD_S, List.flatMap_append, List.map_append]
      rfl
    · skip
      obtain rfl : i = o.length := by have h := of_decide_eq_false hc1; omega
      refine AWp.exit ?_
      refine AWp.seq ?_
      refine AWp.region ?_
      refine AList.c 51 rfl rfl rfl (OpJ.move rfl rfl) ?_
      refine AList.c 4 rfl rfl rfl (OpJ.assign rfl rfl) ?_
      refine AList.c 5 rfl rfl rfl (OpJ.assign rfl rfl) ?_
      refine AList.nil ?_
      refine AWp.to (To.accD 4 0 o.length (xs := (mkD p o o.length).flatMap Dp.cells) rfl rfl (mk_nil p o o.length)) ?_
      refine AWp.ret ?_
      exact Fin.manyE (xs := [.is ((mkD p o o.length).flatMap Dp.cells) o.length, .bool true]) rfl (⟨_, _, rfl, rfl, ⟨_, _, rfl, rfl, rfl⟩⟩) rfl (by unfold dpsV; rw [mkD_len])
def okB (p : Pnt) (o : List Int) : Bool := decide ((timesR p o).2.2 = 0)
theorem lDips_X {p : Pnt} {o : List Int} (hb : p.bs.length ≤ 8) (hbd : ∀ b ∈ p.bs, b.dry.length ≤ 14) (ho : o.length ≤ 1000) : Pure Try.prog 22 [pntV p, intsV o] (.tuple [dxV p o, .bool (okB p o)]) := by
  unfold dxV okB
  by_cases h : (timesR p o).2.2 = 0
  · rw [if_pos h, decide_eq_true h]
    exact lDips_P p o hb hbd h ho
  · rw [if_neg h, decide_eq_false h]
    exact lDips_N p o hb hbd h ho
theorem scD (p : Pnt) (o : List Int) (n : Nat) : scL ((mkD p o n).flatMap Dp.cells) = true := by
  generalize mkD p o n = l
  induction l with
  | nil => rfl
  | cons x l ih => rw [List.flatMap_cons]; exact ih
theorem check_M {p : Pnt} {l : List Dp} {n : Nat} (hb : p.bs.length ≤ 8) (hbd : ∀ b ∈ p.bs, b.dry.length ≤ 14) (hl : l.length = n) (hn : n ≤ 1000) {a e : Int} (h : chkR p l = (a, e)) : Pure Try.prog 11 [pntV p, .is (l.flatMap Dp.cells) n] (.tuple [.int .i64 a, .int .i64 e]) := by
  have h2 := check_ok p l hb hbd (by omega)
  unfold dpsV chkV at h2
  rw [hl, h] at h2
  exact h2
theorem earl_len (p : Pnt) (o : List Int) (k : Nat) : (earlD p o k).length = o.length := by unfold earlD; rw [List.length_set, mkD_len]
theorem rPaint_g {p : Pnt} {n : Nat} (h : (lrgB p 9 || decide ((n : Int) = 0)) = false) : Pure Try.prog 20 [pntV p] (.bool (pntB p)) := by
  rw [Bool.or_eq_false_iff] at h
  obtain ⟨hb, hbd, _⟩ := lrg_no h.1
  exact rPaint_ok p hb hbd
theorem lawEarly_0 (p : Pnt) (by_ : List Nat) (w : Nat) (hbb : p.bs.length ≤ bigN) (hby : by_.length ≤ bigN) (h255 : ∀ x ∈ by_, x ≤ 255) (hw : w ≤ 255) (h0 : (timesR p (ordN p by_ 9)).2.2 = 0) : Pure Try.prog 6 [pntV p, bysV by_, .int .u8 (w : Int)] (.bool true) := by
  refine Pure.start (N := 99) Try.func6 rfl rfl (Nat.le_of_ble_eq_true rfl) ?_
  refine AWp.seq ?_
  refine AWp.region ?_
  refine AList.c 3 rfl rfl rfl (OpJ.boxImm rfl rfl rfl) ?_
  refine AList.c 6 rfl rfl rfl (OpJ.assign rfl rfl) ?_
  refine AList.nil ?_
  refine AWp.seq ?_
  refine AWp.seq ?_
  refine AWp.region ?_
  refine AList.c 12 rfl rfl rfl (OpJ.load (v := .p (pntV p)) rfl rfl ty24 rfl) ?_
  refine AList.c 13 rfl rfl rfl (OpJ.callP (large_ok p 9 hbb) rfl rfl rfl rfl rf9) ?_
  refine AList.c 14 rfl rfl rfl (OpJ.move rfl rfl) ?_
  refine AList.g 15 14 rfl rfl rfl rfl rfl rfl rfl [(1, _)] (fun h => And.intro (.inl rfl) (trivial)) (fun h => (OpJ.move rfl rfl)) ?_
  refine AList.g 16 14 rfl rfl rfl rfl rfl rfl rfl [(15, _)] (fun h => And.intro (.inr ⟨_, rfl, h⟩) (trivial)) (fun h => (OpJ.lenSlice rfl rfl sl42 rfl)) ?_
  refine AList.g 17 14 rfl rfl rfl rfl rfl rfl rfl [(16, _)] (fun h => And.intro (.inr ⟨_, rfl, h⟩) (trivial)) (fun h => (OpJ.eql rfl rfl rfl)) ?_
  refine AList.c 18 rfl rfl rfl (OpJ.or_ rfl rfl rfl ?_) ?_
  · first | (intro h; rw [h]; rfl) | (intro h; simp_all)
  refine AList.c 19 rfl rfl rfl (OpJ.move rfl rfl) ?_
  refine AList.g 20 19 rfl rfl rfl rfl rfl rfl rfl [(3, _)] (fun h => And.intro (.inl rfl) (trivial)) (fun h => (OpJ.load (v := .p (pntV p)) rfl rfl ty24 rfl)) ?_
  refine AList.g 21 19 rfl rfl rfl rfl rfl rfl rfl [(20, _)] (fun h => And.intro (.inr ⟨_, rfl, h⟩) (trivial)) (fun h => (OpJ.callP (rPaint_g (n := by_.length) (by simpa using h)) rfl rfl rfl rfl rf20)) ?_
  refine AList.g 22 19 rfl rfl rfl rfl rfl rfl rfl [(21, _)] (fun h => And.intro (.inr ⟨_, rfl, h⟩) (trivial)) (fun h => (OpJ.not_ rfl rfl)) ?_
  refine AList.c 23 rfl rfl rfl (OpJ.or_ rfl rfl rfl ?_) ?_
  · first | (intro h; rw [h]; rfl) | (intro h; simp_all)
  refine AList.nil ?_
  refine AWp.cond _ rfl (fun hc0 => ?_) (fun hc0 => ?_)
  · skip
    refine AWp.seq ?_
    refine AWp.region ?_
    refine AList.c 24 rfl rfl rfl (OpJ.callP (awake_ok) rfl rfl rfl rfl rf10) ?_
    refine AList.c 6 rfl rfl rfl (OpJ.assign rfl rfl) ?_
    refine AList.nil ?_
    refine AWp.ret ?_
    exact Fin.oneE rfl rfl rfl
  · skip
    have hc : ((lrgB p 9 || decide ((by_.length : Int) = 0)) || !pntB p) = false := hc0
    rw [Bool.or_eq_false_iff, Bool.or_eq_false_iff] at hc
    obtain ⟨⟨hlg, hb0⟩, hT0⟩ := hc
    have hT : pntB p = true := by simpa using hT0
    have hby0 : 0 < by_.length := by have h := of_decide_eq_false hb0; omega
    obtain ⟨hb, hbd, _⟩ := lrg_no hlg
    have hp := pnt_ok hT
    have hol := ordN_all hp by_
    have hc9 := hp.all
    have hcp := coats_pos hp
    have hps : 0 < (ordN p by_ 9).length := by omega
    refine AWp.skip ?_
    refine AWp.seq ?_
    refine AWp.regionDrawG 9 1 [0] [([], false), ([], false), ([], false), ([], false), ([0], true), ([0], false), ([0], false), ([0], false), ([0], false)] mixed (by kernel_rfl) (by decide) (by kernel_rfl) rfl rfl ?_
    refine AQG.cons 26 rfl rfl rfl (fun _ => (OpJ.load (v := .p (pntV p)) rfl rfl ty24 rfl)) rfl ?_
    refine AQG.cons 27 rfl rfl rfl (fun _ => (OpJ.load (v := .p (pntV p)) rfl rfl ty24 rfl)) rfl ?_
    refine AQG.cons 28 rfl rfl rfl (fun _ => (OpJ.move rfl rfl)) rfl ?_
    refine AQG.cons 29 rfl rfl rfl (fun _ => (OpJ.callP (order_ok p hp by_ hby0 hby h255) rfl rfl rfl rfl rf21)) rfl ?_
    refine AQG.lay (v0 := .tuple [.row 1 (ordN p by_ 9).length, .p (.bool true)]) 30 0 rfl rfl rfl rfl rfl rfl rfl rfl (fun _ => (OpJ.callTupR hps (lDips_0 p (ordN p by_ 9) hb hbd h0 (by omega)) (scD _ _ _) rfl rfl rfl rfl rfl rf22)) rfl rfl (by show Blk.row (renL _ (List.map V.p _)) _ = _; rw [renL_pure]) ?_
    refine AQG.cons 25 rfl rfl rfl (fun _ => (OpJ.move rfl rfl)) rfl ?_
    refine AQG.cons 31 rfl rfl rfl (fun _ => (OpJ.extract rfl rfl rfl)) rfl ?_
    refine AQG.cons 32 rfl rfl rfl (fun _ => (OpJ.extract rfl rfl rfl)) rfl ?_
    refine AQG.cons 7 rfl rfl rfl (fun _ => (OpJ.assign rfl rfl)) rfl ?_
    refine AQG.nil ?_
    refine AList.c 8 rfl rfl rfl (OpJ.assign rfl rfl) ?_
    refine AList.nil ?_
    refine AWp.seq ?_
    refine AWp.seq ?_
    refine AWp.region ?_
    refine AList.c 33 rfl rfl rfl (OpJ.move rfl rfl) ?_
    refine AList.c 34 rfl rfl rfl (OpJ.not_ rfl rfl) ?_
    refine AList.nil ?_
    refine AWp.cond _ rfl (fun hc1 => ?_) (fun hc1 => ?_)
    · skip
      cases hc1
    · skip
      have hml := mkD_len p (ordN p by_ 9) (ordN p by_ 9).length
      have hkl : (w % (ordN p by_ 9).length) < (ordN p by_ 9).length := Nat.mod_lt _ hps
      obtain ⟨e, hce, hor⟩ := early_2 h0 (by omega) hkl
      obtain ⟨_, hall, _, _⟩ := times_0 h0
      have hrb : 0 ≤ hrI p (ordN p by_ 9) (w % (ordN p by_ 9).length) ∧ hrI p (ordN p by_ 9) (w % (ordN p by_ 9).length) ≤ 1073741824 := by
        obtain ⟨q, _, hql, _, hr, _, _⟩ := st_S (hall _ hkl)
        have hB := time_B hp (stN_B hp (ordN p by_ 9) (w % (ordN p by_ 9).length)) q
        rw [hr]
        omega
      refine AWp.skip ?_
      refine AWp.seq ?_
      refine AWp.region ?_
      refine AList.c 37 rfl rfl rfl (OpJ.load (v := .p (pntV p)) rfl rfl ty24 rfl) ?_
      refine AList.c 38 rfl rfl rfl (OpJ.move rfl rfl) ?_
      refine AList.c 39 rfl rfl rfl (OpJ.callB 3 (check_M hb hbd hml (by omega) (early_ok1 h0 (by omega))) rfl rfl rfl rfl rfl (mapO.c brwP (mapO.c (brwRow rfl) mapO.n)) rf11) ?_
      refine AList.c 36 rfl rfl rfl (OpJ.move rfl rfl) ?_
      refine AList.c 40 rfl rfl rfl (OpJ.extract rfl rfl rfl) ?_
      refine AList.c 41 rfl rfl rfl (OpJ.extract rfl rfl rfl) ?_
      refine AList.c 9 rfl rfl rfl (OpJ.assign rfl rfl) ?_
      refine AList.c 10 rfl rfl rfl (OpJ.assign rfl rfl) ?_
      refine AList.nil ?_
      refine AWp.seq ?_
      refine AWp.seq ?_
      refine AWp.region ?_
      refine AList.c 42 rfl rfl rfl (OpJ.move rfl rfl) ?_
      refine AList.c 43 rfl rfl rfl (OpJ.move rfl rfl) ?_
      refine AList.c 44 rfl rfl rfl (OpJ.lenSlice rfl rfl sl25 rfl) ?_
      refine AList.c 45 rfl rfl rfl (OpJ.neq rfl rfl rfl) ?_
      refine AList.c 46 rfl rfl rfl (OpJ.move rfl rfl) ?_
      refine AList.g 47 46 rfl rfl rfl rfl rfl rfl rfl [(10, _)] (fun h => And.intro (.inl rfl) (trivial)) (fun h => (OpJ.move rfl rfl)) ?_
      refine AList.g 48 46 rfl rfl rfl rfl rfl rfl rfl [(47, _)] (fun h => And.intro (.inr ⟨_, rfl, h⟩) (trivial)) (fun h => (OpJ.neq rfl rfl rfl)) ?_
      refine AList.c 49 rfl rfl rfl (OpJ.or_ rfl rfl rfl ?_) ?_
      · first | (intro h; rw [h]; rfl) | (intro h; simp_all)
      refine AList.nil ?_
      refine AWp.cond _ rfl (fun hc2 => ?_) (fun hc2 => ?_)
      · skip
        exfalso
        simp at hc2
      · skip
        refine AWp.skip ?_
        refine AWp.seq ?_
        refine AWp.region ?_
        refine AList.c 50 rfl rfl rfl (OpJ.move rfl rfl) ?_
        refine AList.c 51 rfl rfl rfl (OpJ.convInt rfl rfl (by rw [un5]; rfl) un3 (i64ok ?_)) ?_
        · omega
        refine AList.c 52 rfl rfl rfl (OpJ.move rfl rfl) ?_
        refine AList.c 53 rfl rfl rfl (OpJ.lenSlice rfl rfl sl25 rfl) ?_
        refine AList.c 54 rfl rfl rfl (OpJ.rem (m := (((w % (ordN p by_ 9).length) : Nat) : Int)) rfl rfl rfl ?_ ?_) ?_
        · omega
        · exact tmodN _ _
        refine AList.c 11 rfl rfl rfl (OpJ.assign rfl rfl) ?_
        refine AList.nil ?_
        refine AWp.seq ?_
        refine AWp.region ?_
        refine AList.c 55 rfl rfl rfl (OpJ.move rfl rfl) ?_
        refine AList.c 56 rfl rfl rfl (OpJ.move rfl rfl) ?_
        refine AList.c 57 rfl rfl rfl (OpJ.indexRow rfl rfl rfl sl25 el25 hkl) ?_
        refine AList.c 58 rfl rfl rfl (OpJ.fieldAddr rfl rfl fd49_1 rfl) ?_
        refine AList.c 59 rfl rfl rfl (OpJ.loadFlat (f := Dp.cells) (c := 2) (k := (w % (ordN p by_ 9).length)) (j := 1) (xs := (mkD p (ordN p by_ 9) (ordN p by_ 9).length)) rfl rfl ty3 rfl rfl (by omega) (fun _ => rfl) (by rw [mkD_len]; omega) (by decide) (show _ = PV.int .i64 (hrI p (ordN p by_ 9) (w % (ordN p by_ 9).length)) from by rw [dpt_get _ (by rw [mkD_len]; exact hkl), mkD_at p _ hkl]; rfl)) ?_
        refine AList.c 60 rfl rfl rfl (OpJ.sub_ rfl rfl rfl (i64ok ?_)) ?_
        · omega
        refine AList.c 61 rfl rfl rfl (OpJ.indexRow rfl rfl rfl sl25 el25 hkl) ?_
        refine AList.c 62 rfl rfl rfl (OpJ.fieldAddr rfl rfl fd49_1 rfl) ?_
        refine AList.c0 rfl rfl (OpJ.storeRow (f := Dp.cells) (c := 2) (k := (w % (ordN p by_ 9).length)) (j := 1) (xs := (mkD p (ordN p by_ 9) (ordN p by_ 9).length)) (z := ⟨nt (ordN p by_ 9) (w % (ordN p by_ 9).length), hrI p (ordN p by_ 9) (w % (ordN p by_ 9).length) - 1⟩) (ws := [_]) rfl rfl rfl rfl rfl ty3 rfl rfl rfl (by omega) (fun _ => rfl) (by rw [mkD_len]; exact hkl) (Nat.le_refl _) (by rw [dpt_get _ (by rw [mkD_len]; exact hkl), mkD_at p _ hkl]; rfl)) ?_
        refine AList.nil ?_
        refine AWp.seq ?_
        refine AWp.region ?_
        refine AList.c 64 rfl rfl rfl (OpJ.load (v := .p (pntV p)) rfl rfl ty24 rfl) ?_
        refine AList.c 65 rfl rfl rfl (OpJ.move rfl rfl) ?_
        refine AList.c 66 rfl rfl rfl (OpJ.callB 3 (check_M hb hbd (earl_len _ _ _) (by omega) hce) rfl rfl rfl rfl rfl (mapO.c brwP (mapO.c (brwRow rfl) mapO.n)) rf11) ?_
        refine AList.c 63 rfl rfl rfl (OpJ.move rfl rfl) ?_
        refine AList.c 67 rfl rfl rfl (OpJ.extract rfl rfl rfl) ?_
        refine AList.c 68 rfl rfl rfl (OpJ.extract rfl rfl rfl) ?_
        refine AList.c 9 rfl rfl rfl (OpJ.assign rfl rfl) ?_
        refine AList.c 10 rfl rfl rfl (OpJ.assign rfl rfl) ?_
        refine AList.nil ?_
        refine AWp.seq ?_
        refine AWp.region ?_
        refine AList.c 69 rfl rfl rfl (OpJ.move rfl rfl) ?_
        refine AList.c 70 rfl rfl rfl (OpJ.move rfl rfl) ?_
        refine AList.c 71 rfl rfl rfl (OpJ.eql rfl rfl rfl) ?_
        refine AList.c 72 rfl rfl rfl (OpJ.move rfl rfl) ?_
        refine AList.g 73 72 rfl rfl rfl rfl rfl rfl rfl [(10, _)] (fun h => And.intro (.inl rfl) (trivial)) (fun h => (OpJ.move rfl rfl)) ?_
        refine AList.g 74 72 rfl rfl rfl rfl rfl rfl rfl [(73, _)] (fun h => And.intro (.inr ⟨_, rfl, h⟩) (trivial)) (fun h => (OpJ.eql rfl rfl rfl)) ?_
        refine AList.g 75 72 rfl rfl rfl rfl rfl rfl rfl [(74, _)] (fun h => And.intro (.inr ⟨_, rfl, h⟩) (trivial)) (fun h => (OpJ.move rfl rfl)) ?_
        refine AList.g 76 75 rfl rfl rfl rfl rfl rfl rfl [(7, _)] (fun h => And.intro (.inl rfl) (trivial)) (fun h => (OpJ.move rfl rfl)) ?_
        refine AList.g 77 75 rfl rfl rfl rfl rfl rfl rfl [(11, _)] (fun h => And.intro (.inl rfl) (trivial)) (fun h => (OpJ.move rfl rfl)) ?_
        refine AList.g 78 75 rfl rfl rfl rfl rfl rfl rfl [(76, _), (77, _)] (fun h => And.intro (.inr ⟨_, rfl, h⟩) (And.intro (.inr ⟨_, rfl, h⟩) (trivial))) (fun h => (OpJ.indexRow rfl rfl rfl sl25 el25 hkl)) ?_
        refine AList.g 79 75 rfl rfl rfl rfl rfl rfl rfl [(78, _)] (fun h => And.intro (.inr ⟨_, rfl, h⟩) (trivial)) (fun h => (OpJ.fieldAddr rfl rfl fd49_1 rfl)) ?_
        refine AList.g 80 75 rfl rfl rfl rfl rfl rfl rfl [(79, _)] (fun h => And.intro (.inr ⟨_, rfl, h⟩) (trivial)) (fun h => (OpJ.loadFlat (f := Dp.cells) (c := 2) (k := (w % (ordN p by_ 9).length)) (j := 1) (xs := (earlD p (ordN p by_ 9) (w % (ordN p by_ 9).length))) rfl rfl ty3 rfl rfl (by omega) (fun _ => rfl) (by rw [earl_len]; exact hkl) (by decide) (show _ = PV.int .i64 (hrI p (ordN p by_ 9) (w % (ordN p by_ 9).length) - 1) from by rw [dpt_get _ (by rw [earl_len]; exact hkl)]; unfold earlD; rw [dpt_set (by rw [mkD_len]; exact hkl), if_pos rfl]; rfl))) ?_
        refine AList.g 81 75 rfl rfl rfl rfl rfl rfl rfl [(80, _)] (fun h => And.intro (.inr ⟨_, rfl, h⟩) (trivial)) (fun h => (OpJ.lss rfl rfl rfl)) ?_
        refine AList.g 82 72 rfl rfl rfl rfl rfl rfl rfl [(75, _), (81, _)] (fun h => And.intro (.inr ⟨_, rfl, h⟩) (And.intro (.inl rfl) (trivial))) (fun h => (OpJ.and_ rfl rfl rfl ?_)) ?_
        · first | (intro h; rw [h]; rfl) | (intro h; simp_all)
        refine AList.g 83 72 rfl rfl rfl rfl rfl rfl rfl [(82, _)] (fun h => And.intro (.inr ⟨_, rfl, h⟩) (trivial)) (fun h => (OpJ.move rfl rfl)) ?_
        refine AList.g 84 83 rfl rfl rfl rfl rfl rfl rfl [(10, _)] (fun h => And.intro (.inl rfl) (trivial)) (fun h => (OpJ.move rfl rfl)) ?_
        refine AList.g 85 83 rfl rfl rfl rfl rfl rfl rfl [(84, _)] (fun h => And.intro (.inr ⟨_, rfl, h⟩) (trivial)) (fun h => (OpJ.eql rfl rfl rfl)) ?_
        refine AList.g 86 72 rfl rfl rfl rfl rfl rfl rfl [(83, _), (85, _)] (fun h => And.intro (.inr ⟨_, rfl, h⟩) (And.intro (.inl rfl) (trivial))) (fun h => (OpJ.or_ rfl rfl rfl ?_)) ?_
        · intro h; by_cases e2 : e = 2 <;> simp_all
        refine AList.g 87 72 rfl rfl rfl rfl rfl rfl rfl [(86, _)] (fun h => And.intro (.inr ⟨_, rfl, h⟩) (trivial)) (fun h => (OpJ.move rfl rfl)) ?_
        refine AList.g 88 87 rfl rfl rfl rfl rfl rfl rfl [(10, _)] (fun h => And.intro (.inl rfl) (trivial)) (fun h => (OpJ.move rfl rfl)) ?_
        refine AList.g 89 87 rfl rfl rfl rfl rfl rfl rfl [(88, _)] (fun h => And.intro (.inr ⟨_, rfl, h⟩) (trivial)) (fun h => (OpJ.eql rfl rfl rfl)) ?_
        refine AList.g 90 72 rfl rfl rfl rfl rfl rfl rfl [(87, _), (89, _)] (fun h => And.intro (.inr ⟨_, rfl, h⟩) (And.intro (.inl rfl) (trivial))) (fun h => (OpJ.or_ rfl rfl rfl ?_)) ?_
        · intro h; by_cases e2 : e = 2 <;> simp_all
        refine AList.g 91 72 rfl rfl rfl rfl rfl rfl rfl [(90, _)] (fun h => And.intro (.inr ⟨_, rfl, h⟩) (trivial)) (fun h => (OpJ.move rfl rfl)) ?_
        refine AList.g 92 91 rfl rfl rfl rfl rfl rfl rfl [(10, _)] (fun h => And.intro (.inl rfl) (trivial)) (fun h => (OpJ.move rfl rfl)) ?_
        refine AList.g 93 91 rfl rfl rfl rfl rfl rfl rfl [(92, _)] (fun h => And.intro (.inr ⟨_, rfl, h⟩) (trivial)) (fun h => (OpJ.eql rfl rfl rfl)) ?_
        refine AList.g 94 72 rfl rfl rfl rfl rfl rfl rfl [(91, _), (93, _)] (fun h => And.intro (.inr ⟨_, rfl, h⟩) (And.intro (.inl rfl) (trivial))) (fun h => (OpJ.or_ rfl rfl rfl ?_)) ?_
        · intro h; by_cases e2 : e = 2 <;> simp_all
        refine AList.c 95 rfl rfl rfl (OpJ.and_ rfl rfl rfl ?_) ?_
        · first | (intro h; rw [h]; rfl) | (intro h; simp_all)
        refine AList.c 96 rfl rfl rfl (OpJ.move rfl rfl) ?_
        refine AList.g 97 96 rfl rfl rfl rfl rfl rfl rfl [] (fun h => trivial) (fun h => (OpJ.callP (awake_ok) rfl rfl rfl rfl rf10)) ?_
        refine AList.c 98 rfl rfl rfl (OpJ.and_ rfl rfl rfl ?_) ?_
        · first | (intro h; rw [h]; rfl) | (intro h; simp_all)
        refine AList.c 6 rfl rfl rfl (OpJ.assign rfl rfl) ?_
        refine AList.nil ?_
        refine AWp.ret ?_
        refine Fin.oneE rfl rfl ?_
        rcases hor with ⟨rfl, hlt⟩ | rfl | rfl | rfl
        · rw [decide_eq_true hlt]; simp
        all_goals simp
theorem lawEarly_E (p : Pnt) (by_ : List Nat) (w : Nat) (hbb : p.bs.length ≤ bigN) (hby : by_.length ≤ bigN) (h255 : ∀ x ∈ by_, x ≤ 255) (hw : w ≤ 255) (hE : ¬ (timesR p (ordN p by_ 9)).2.2 = 0) : Pure Try.prog 6 [pntV p, bysV by_, .int .u8 (w : Int)] (.bool true) := by
  refine Pure.start (N := 99) Try.func6 rfl rfl (Nat.le_of_ble_eq_true rfl) ?_
  refine AWp.seq ?_
  refine AWp.region ?_
  refine AList.c 3 rfl rfl rfl (OpJ.boxImm rfl rfl rfl) ?_
  refine AList.c 6 rfl rfl rfl (OpJ.assign rfl rfl) ?_
  refine AList.nil ?_
  refine AWp.seq ?_
  refine AWp.seq ?_
  refine AWp.region ?_
  refine AList.c 12 rfl rfl rfl (OpJ.load (v := .p (pntV p)) rfl rfl ty24 rfl) ?_
  refine AList.c 13 rfl rfl rfl (OpJ.callP (large_ok p 9 hbb) rfl rfl rfl rfl rf9) ?_
  refine AList.c 14 rfl rfl rfl (OpJ.move rfl rfl) ?_
  refine AList.g 15 14 rfl rfl rfl rfl rfl rfl rfl [(1, _)] (fun h => And.intro (.inl rfl) (trivial)) (fun h => (OpJ.move rfl rfl)) ?_
  refine AList.g 16 14 rfl rfl rfl rfl rfl rfl rfl [(15, _)] (fun h => And.intro (.inr ⟨_, rfl, h⟩) (trivial)) (fun h => (OpJ.lenSlice rfl rfl sl42 rfl)) ?_
  refine AList.g 17 14 rfl rfl rfl rfl rfl rfl rfl [(16, _)] (fun h => And.intro (.inr ⟨_, rfl, h⟩) (trivial)) (fun h => (OpJ.eql rfl rfl rfl)) ?_
  refine AList.c 18 rfl rfl rfl (OpJ.or_ rfl rfl rfl ?_) ?_
  · first | (intro h; rw [h]; rfl) | (intro h; simp_all)
  refine AList.c 19 rfl rfl rfl (OpJ.move rfl rfl) ?_
  refine AList.g 20 19 rfl rfl rfl rfl rfl rfl rfl [(3, _)] (fun h => And.intro (.inl rfl) (trivial)) (fun h => (OpJ.load (v := .p (pntV p)) rfl rfl ty24 rfl)) ?_
  refine AList.g 21 19 rfl rfl rfl rfl rfl rfl rfl [(20, _)] (fun h => And.intro (.inr ⟨_, rfl, h⟩) (trivial)) (fun h => (OpJ.callP (rPaint_g (n := by_.length) (by simpa using h)) rfl rfl rfl rfl rf20)) ?_
  refine AList.g 22 19 rfl rfl rfl rfl rfl rfl rfl [(21, _)] (fun h => And.intro (.inr ⟨_, rfl, h⟩) (trivial)) (fun h => (OpJ.not_ rfl rfl)) ?_
  refine AList.c 23 rfl rfl rfl (OpJ.or_ rfl rfl rfl ?_) ?_
  · first | (intro h; rw [h]; rfl) | (intro h; simp_all)
  refine AList.nil ?_
  refine AWp.cond _ rfl (fun hc0 => ?_) (fun hc0 => ?_)
  · skip
    refine AWp.seq ?_
    refine AWp.region ?_
    refine AList.c 24 rfl rfl rfl (OpJ.callP (awake_ok) rfl rfl rfl rfl rf10) ?_
    refine AList.c 6 rfl rfl rfl (OpJ.assign rfl rfl) ?_
    refine AList.nil ?_
    refine AWp.ret ?_
    exact Fin.oneE rfl rfl rfl
  · skip
    have hc : ((lrgB p 9 || decide ((by_.length : Int) = 0)) || !pntB p) = false := hc0
    rw [Bool.or_eq_false_iff, Bool.or_eq_false_iff] at hc
    obtain ⟨⟨hlg, hb0⟩, hT0⟩ := hc
    have hT : pntB p = true := by simpa using hT0
    have hby0 : 0 < by_.length := by have h := of_decide_eq_false hb0; omega
    obtain ⟨hb, hbd, _⟩ := lrg_no hlg
    have hp := pnt_ok hT
    have hol := ordN_all hp by_
    have hc9 := hp.all
    have hcp := coats_pos hp
    have hps : 0 < (ordN p by_ 9).length := by omega
    refine AWp.skip ?_
    refine AWp.seq ?_
    refine AWp.regionDraw 10 mixed (by kernel_rfl) (by decide) ?_
    refine AQuiet.cons 26 rfl rfl rfl (OpJ.load (v := .p (pntV p)) rfl rfl ty24 rfl) ?_
    refine AQuiet.cons 27 rfl rfl rfl (OpJ.load (v := .p (pntV p)) rfl rfl ty24 rfl) ?_
    refine AQuiet.cons 28 rfl rfl rfl (OpJ.move rfl rfl) ?_
    refine AQuiet.cons 29 rfl rfl rfl (OpJ.callP (order_ok p hp by_ hby0 hby h255) rfl rfl rfl rfl rf21) ?_
    refine AQuiet.cons 30 rfl rfl rfl (OpJ.callP (lDips_N p _ hb hbd hE (by omega)) rfl rfl rfl rfl rf22) ?_
    refine AQuiet.cons 25 rfl rfl rfl (OpJ.move rfl rfl) ?_
    refine AQuiet.cons 31 rfl rfl rfl (OpJ.extract rfl rfl rfl) ?_
    refine AQuiet.cons 32 rfl rfl rfl (OpJ.extract rfl rfl rfl) ?_
    refine AQuiet.cons 7 rfl rfl rfl (OpJ.assign rfl rfl) ?_
    refine AQuiet.cons 8 rfl rfl rfl (OpJ.assign rfl rfl) ?_
    refine AQuiet.nil ?_
    refine AList.nil ?_
    refine AWp.seq ?_
    refine AWp.seq ?_
    refine AWp.region ?_
    refine AList.c 33 rfl rfl rfl (OpJ.move rfl rfl) ?_
    refine AList.c 34 rfl rfl rfl (OpJ.not_ rfl rfl) ?_
    refine AList.nil ?_
    refine AWp.cond _ rfl (fun hc1 => ?_) (fun hc1 => ?_)
    · skip
      refine AWp.seq ?_
      refine AWp.region ?_
      refine AList.c 35 rfl rfl rfl (OpJ.callP (awake_ok) rfl rfl rfl rfl rf10) ?_
      refine AList.c 6 rfl rfl rfl (OpJ.assign rfl rfl) ?_
      refine AList.nil ?_
      refine AWp.ret ?_
      exact Fin.oneE rfl rfl rfl
    · skip
      cases hc1
theorem lawEarly_walk (p : Pnt) (by_ : List Nat) (w : Nat) (hbb : p.bs.length ≤ bigN) (hby : by_.length ≤ bigN) (h255 : ∀ x ∈ by_, x ≤ 255) (hw : w ≤ 255) : Pure Try.prog 6 [pntV p, bysV by_, .int .u8 (w : Int)] (.bool true) := by
  by_cases h : (timesR p (ordN p by_ 9)).2.2 = 0
  · exact lawEarly_0 p by_ w hbb hby h255 hw h
  · exact lawEarly_E p by_ w hbb hby h255 hw h
theorem u8s_of {el : List PV} (h : TyL [.leaf (.int .u8)] el) : ∃ a : { n : Nat // n ≤ 255 }, el = u1 a.1 := by
  obtain ⟨n, e, h1⟩ := u8_of h
  exact ⟨⟨n, h1⟩, e⟩
theorem bys_of {x : List PV} (h : TyL [.sl [.leaf (.int .u8)]] x) : ∃ c : List Nat, x = [bysV c] ∧ c.length ≤ bigN ∧ ∀ y ∈ c, y ≤ 255 := by
  obtain ⟨l, e1, e2⟩ := sl_of (f := fun a : { n : Nat // n ≤ 255 } => u1 a.1) (fun el => u8s_of) h
  refine ⟨l.map (·.1), ?_, by rw [List.length_map]; exact e2, fun y hy => ?_⟩
  · rw [e1]
    unfold bysV
    rw [List.flatMap_map, List.length_map]
  · obtain ⟨z, _, rfl⟩ := List.mem_map.1 hy
    exact z.2
theorem coatEarly_law {x0 x1 x2 : List PV} (h0 : TyL [.leaf (.int .i64), .leaf (.int .i64), .sl [.sl [.leaf (.int .i64), .leaf (.int .i64)], .leaf (.int .i64)]] x0) (h1 : TyL [.sl [.leaf (.int .u8)]] x1) (h2 : TyL [.leaf (.int .u8)] x2) : Pure Try.prog 6 [argP true x0, argP false x1, argP false x2] (.bool true) := by
  obtain ⟨p, rfl, hp⟩ := pnt_of h0
  obtain ⟨l, rfl, hl, hl2⟩ := bys_of h1
  obtain ⟨n, rfl, hn⟩ := u8_of h2
  exact lawEarly_walk p l n hp hl hl2 hn
end Go.Proofs.Ytibgdkaipleajaa
end
