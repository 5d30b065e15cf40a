/-
  What the searches of Fill and Use ask.
-/
import Derived.Test.YtpamkihpffoflaaBxFactsB
import Derived.Test.YtpamkihpffoflaaBx15
set_option linter.unusedVariables false
set_option maxRecDepth 100000
set_option maxHeartbeats 4000000
set_option linter.unusedSimpArgs false
namespace Go.Proofs.Ytpamkihpffoflaa
open Go.AF
theorem can_L (v : List Int) (l : List Pl) (L R : Nat) (hL : v.length = L) (hR : l.length = R) (h0 : 0 < L) (hv : okV v) (hl : okP L l) : Pure Try.prog 32 [.is (v.flatMap i1) L, .is (l.flatMap Pl.cells) R] (.bool (decide ((lkF v l (allS L)).2 = 0))) := by
  subst hL; subst hR; exact can_ok v l h0 hv hl
theorem clone_L (v : List Int) (L : Nat) (hL : v.length = L) (h0 : 0 < L) (h8 : L ≤ 8) : ACalls Try.prog 46 ([.is (v.flatMap i1) L].map .p) [] fun x H' => x = .row 0 L ∧ H' = [.row ((v.flatMap i1).map .p) 3] := by
  subst hL; exact clone_ok v h0 h8
theorem clonePl_ok (l : List Pl) (h0 : 0 < l.length) (h8 : l.length ≤ 8) : ACalls Try.prog 43 ([plV l].map .p) [] fun x H' => x = .row 0 l.length ∧ H' = [.row ((l.flatMap Pl.cells).map .p) 46] := by
  refine ACalls.start (N := 8) Try.func43 rfl rfl (Nat.le_of_ble_eq_true rfl) ?_
  refine AWp.seq ?_
  refine AWp.region ?_
  refine AList.c 2 rfl rfl rfl (OpJ.assign rfl rfl) ?_
  refine AList.nil ?_
  refine AWp.seq ?_
  refine AWp.seq ?_
  refine AWp.region ?_
  refine AList.c 3 rfl rfl rfl (OpJ.move rfl rfl) ?_
  refine AList.c 4 rfl rfl rfl (OpJ.eqNil rfl rfl rfl slz23 h0) ?_
  refine AList.nil ?_
  refine AWp.cond _ rfl (fun hc0 => ?_) (fun hc0 => ?_)
  · skip
    cases hc0
  · skip
    refine AWp.skip ?_
    refine AWp.seq ?_
    refine AWp.region ?_
    refine AList.c 5 rfl rfl rfl (OpJ.buildOwn rfl slz23 (by decide) rfl rfl) ?_
    refine AList.c 6 rfl rfl rfl (OpJ.move rfl rfl) ?_
    refine AList.c 7 rfl rfl rfl (OpJ.appendRow rfl rfl rfl slz23 sl23 rfl ?_ (asrc_is (by rw [flat_len (c := 2) (fun _ => rfl)]; rfl)) (onePl l) by46 (by decide) ?_) ?_
    · rfl
    · show (2 * (0 + l.length) + 192) * 16 ≤ 281474976710656; omega
    refine AList.c 2 rfl rfl rfl (OpJ.assign rfl rfl) ?_
    refine AList.nil ?_
    refine AWp.norm [1] [(2, .row 0 (0 + l.length))] [.row ((l.flatMap Pl.cells).map .p) 46] rfl (by repeat (first | exact Sub.nil | refine Sub.cons rfl ?_)) ?_ ?_
    · show [Blk.row (renL _ (_ ++ _)) _] = _
      rw [renL_app, renL_pure (pl [1]) (l.flatMap Pl.cells)]; rfl
    refine AWp.ret ?_
    exact ⟨.inr rfl, .row 0 (0 + l.length), resV.one rfl rfl, by rw [Nat.zero_add], rfl⟩
theorem clonePl_L (l : List Pl) (R : Nat) (hR : l.length = R) (h0 : 0 < R) (h8 : R ≤ 8) : ACalls Try.prog 43 ([.is (l.flatMap Pl.cells) R].map .p) [] fun x H' => x = .row 0 R ∧ H' = [.row ((l.flatMap Pl.cells).map .p) 46] := by
  subst hR; exact clonePl_ok l h0 h8
theorem fill1_ok (v : List Int) (L R j i : Nat) (p : Pl) (rest : List Pl) (hL : v.length = L) (hR : (p :: rest).length = R) (h8 : L ≤ 8) (hj : j < L) (hv : okV v) (hp : okP L (p :: rest)) (hi : (i : Int) ≤ p.m) : Pure Try.prog 45 [.int .i64 (i : Int), .ip [.is (v.flatMap i1) L] 0, .ip [.int .i64 (j : Int)] 0, .ip [.is ((p :: rest).flatMap Pl.cells) R] 0] (.bool (ownB L v p.s p.m rest j i)) := by
  have hr8 := hp.1
  have hpm := hp.2 p (by simp)
  have hR0 : 0 < R := by rw [← hR]; simp
  have hR8 : R ≤ 8 := by omega
  have hjv : j < v.length := by omega
  have h0p : 0 < (p :: rest).length := by simp
  have hp2 : okP L (⟨p.s, p.m - (i : Int)⟩ :: rest) := ⟨hr8, fun q hq => by rcases List.mem_cons.1 hq with rfl | hq; exact ⟨hpm.1, by show 0 ≤ p.m - (i : Int); omega, by show p.m - (i : Int) ≤ 1048576; omega⟩; exact hp.2 q (by simp [hq])⟩
  have hv2 : okV (v.set j 0) := ⟨by rw [List.length_set]; exact hv.1, fun x hx => by rcases List.mem_or_eq_of_mem_set hx with h | rfl; exact hv.2 x h; omega⟩
  refine Pure.start (N := 26) Try.func45 rfl rfl (Nat.le_of_ble_eq_true rfl) ?_
  refine AWp.seq ?_
  refine AWp.region ?_
  refine AList.c 5 rfl rfl rfl (OpJ.assign rfl rfl) ?_
  refine AList.nil ?_
  refine AWp.seq ?_
  refine AWp.region ?_
  refine AList.c 8 rfl rfl rfl (OpJ.load rfl rfl ty22 rfl) ?_
  refine AList.c 9 rfl rfl rfl (OpJ.callRow 3 (clone_L v L hL (by omega) h8) (scI _) rfl rfl rfl rfl rfl rf46) ?_
  refine AList.c 6 rfl rfl rfl (OpJ.assign rfl rfl) ?_
  refine AList.nil ?_
  refine AWp.seq ?_
  refine AWp.region ?_
  refine AList.c 10 rfl rfl rfl (OpJ.move rfl rfl) ?_
  refine AList.c 11 rfl rfl rfl (OpJ.load rfl rfl ty3 rfl) ?_
  refine AList.c 12 rfl rfl rfl (OpJ.indexRow rfl rfl rfl sl22 el22 hj) ?_
  refine AList.c0 rfl rfl (OpJ.storeRow (f := i1) (c := 1) (k := j) (j := 0) (xs := v) (z := 0) (ws := [_]) rfl rfl rfl rfl rfl ty3 rfl rfl rfl (by omega) (fun _ => rfl) hjv (Nat.le_of_ble_eq_true rfl) rfl) ?_
  refine AList.nil ?_
  refine AWp.seq ?_
  refine AWp.region ?_
  refine AList.c 13 rfl rfl rfl (OpJ.load rfl rfl ty23 rfl) ?_
  refine AList.c 14 rfl rfl rfl (OpJ.callRow 3 (clonePl_L (p :: rest) R hR hR0 hR8) (scPl _) rfl rfl rfl rfl rfl rf43) ?_
  refine AList.c 7 rfl rfl rfl (OpJ.assign rfl rfl) ?_
  refine AList.nil ?_
  refine AWp.seq ?_
  refine AWp.region ?_
  refine AList.c 15 rfl rfl rfl (OpJ.move rfl rfl) ?_
  refine AList.c 16 rfl rfl rfl (OpJ.indexRow (k := 0) rfl rfl rfl sl23 el23 hR0) ?_
  refine AList.c 17 rfl rfl rfl (OpJ.fieldAddr rfl rfl fd46_1 rfl) ?_
  refine AList.c 18 rfl rfl rfl (OpJ.loadFlat (f := Pl.cells) (c := 2) (k := 0) (j := 1) (xs := (p :: rest)) rfl rfl ty3 rfl rfl (by omega) (fun _ => rfl) h0p (by decide) (show _ = PV.int .i64 p.m from rfl)) ?_
  refine AList.c 19 rfl rfl rfl (OpJ.move rfl rfl) ?_
  refine AList.c 20 rfl rfl rfl (OpJ.sub_ rfl rfl rfl (i64ok ?_)) ?_
  · omega
  refine AList.c 21 rfl rfl rfl (OpJ.indexRow (k := 0) rfl rfl rfl sl23 el23 hR0) ?_
  refine AList.c 22 rfl rfl rfl (OpJ.fieldAddr rfl rfl fd46_1 rfl) ?_
  refine AList.c0 rfl rfl (OpJ.storeRow (f := Pl.cells) (c := 2) (k := 0) (j := 1) (xs := (p :: rest)) (z := ⟨p.s, p.m - (i : Int)⟩) (ws := [_]) rfl rfl rfl rfl rfl ty3 rfl rfl rfl (by omega) (fun _ => rfl) h0p (Nat.le_of_ble_eq_true rfl) rfl) ?_
  refine AList.nil ?_
  refine AWp.seq ?_
  refine AWp.freeze 0 rfl (allP_map _) ?_
  refine AWp.freeze 1 rfl (allP_map _) ?_
  refine AWp.region ?_
  refine AList.c 23 rfl rfl rfl (OpJ.move rfl rfl) ?_
  refine AList.c 24 rfl rfl rfl (OpJ.move rfl rfl) ?_
  refine AList.c 25 rfl rfl rfl (OpJ.callP (can_L (v.set j 0) (⟨p.s, p.m - (i : Int)⟩ :: rest) L R (by rw [List.length_set]; exact hL) hR (by omega) hv2 hp2) rfl rfl rfl rfl rf32) ?_
  refine AList.c 5 rfl rfl rfl (OpJ.assign rfl rfl) ?_
  refine AList.nil ?_
  refine AWp.ret ?_
  exact Fin.one rfl (rfl)
theorem use1_ok (v : List Int) (L k i : Nat) (l : List Pl) (hL : v.length = L) (h0 : 0 < L) (hk : k < l.length) (hv : okV v) (hp : okP L l) (hi : (i : Int) ≤ l[k].m) : Pure Try.prog 50 [.int .i64 (i : Int), .ip [plV l] 0, .ip [.int .i64 (k : Int)] 0, .ip [.is (v.flatMap i1) L] 0] (.bool (spareB v l k L i)) := by
  have hl8 := hp.1
  have hpm := hp.2 l[k] (List.getElem_mem _)
  have hel : l[k]?.getD ⟨0, 0⟩ = l[k] := by simp [hk]
  have hp2 : okP L (l.set k ⟨l[k].s, l[k].m - (i : Int)⟩) := ⟨by rw [List.length_set]; exact hl8, fun q hq => by rcases List.mem_or_eq_of_mem_set hq with h | rfl; exact hp.2 q h; exact ⟨hpm.1, by show 0 ≤ l[k].m - (i : Int); omega, by show l[k].m - (i : Int) ≤ 1048576; omega⟩⟩
  refine Pure.start (N := 21) Try.func50 rfl rfl (Nat.le_of_ble_eq_true rfl) ?_
  refine AWp.seq ?_
  refine AWp.region ?_
  refine AList.c 5 rfl rfl rfl (OpJ.assign rfl rfl) ?_
  refine AList.nil ?_
  refine AWp.seq ?_
  refine AWp.region ?_
  refine AList.c 7 rfl rfl rfl (OpJ.load rfl rfl ty23 rfl) ?_
  refine AList.c 8 rfl rfl rfl (OpJ.callRow 3 (clonePl_ok l (by omega) hl8) (scPl _) rfl rfl rfl rfl rfl rf43) ?_
  refine AList.c 6 rfl rfl rfl (OpJ.assign rfl rfl) ?_
  refine AList.nil ?_
  refine AWp.seq ?_
  refine AWp.region ?_
  refine AList.c 9 rfl rfl rfl (OpJ.move rfl rfl) ?_
  refine AList.c 10 rfl rfl rfl (OpJ.load rfl rfl ty3 rfl) ?_
  refine AList.c 11 rfl rfl rfl (OpJ.indexRow rfl rfl rfl sl23 el23 hk) ?_
  refine AList.c 12 rfl rfl rfl (OpJ.fieldAddr rfl rfl fd46_1 rfl) ?_
  refine AList.c 13 rfl rfl rfl (OpJ.loadFlat (f := Pl.cells) (c := 2) (k := k) (j := 1) (xs := l) rfl rfl ty3 rfl rfl (by omega) (fun _ => rfl) hk (by decide) rfl) ?_
  refine AList.c 14 rfl rfl rfl (OpJ.move rfl rfl) ?_
  refine AList.c 15 rfl rfl rfl (OpJ.sub_ rfl rfl rfl (i64ok ?_)) ?_
  · omega
  refine AList.c 16 rfl rfl rfl (OpJ.indexRow rfl rfl rfl sl23 el23 hk) ?_
  refine AList.c 17 rfl rfl rfl (OpJ.fieldAddr rfl rfl fd46_1 rfl) ?_
  refine AList.c0 rfl rfl (OpJ.storeRow (f := Pl.cells) (c := 2) (k := k) (j := 1) (xs := l) (z := ⟨l[k].s, l[k].m - (i : Int)⟩) (ws := [_]) rfl rfl rfl rfl rfl ty3 rfl rfl rfl (by omega) (fun _ => rfl) hk (Nat.le_of_ble_eq_true rfl) rfl) ?_
  refine AList.nil ?_
  refine AWp.seq ?_
  refine AWp.freeze 0 rfl (allP_map _) ?_
  refine AWp.region ?_
  refine AList.c 18 rfl rfl rfl (OpJ.load rfl rfl ty22 rfl) ?_
  refine AList.c 19 rfl rfl rfl (OpJ.move rfl rfl) ?_
  refine AList.c 20 rfl rfl rfl (OpJ.callP (can_L v (l.set k ⟨l[k].s, l[k].m - (i : Int)⟩) L l.length hL (by rw [List.length_set]) h0 hv hp2) rfl rfl rfl rfl rf32) ?_
  refine AList.c 5 rfl rfl rfl (OpJ.assign rfl rfl) ?_
  refine AList.nil ?_
  refine AWp.ret ?_
  refine Fin.oneE rfl rfl ?_
  unfold spareB
  rw [hel]
theorem btimes_row (need : List Int) (b : Int) (h0 : 0 < need.length) (hn : okN need) (h8 : need.length ≤ 8) (b0 : 0 ≤ b) (b1 : b ≤ 10000000000) : ACalls Try.prog 33 ([intsV need, .int .i64 b].map .p) [] fun x H' => x = .row 0 need.length ∧ H' = [.row (((timesV need b).flatMap i1).map .p) 3] := by
  refine ACalls.start (N := 23) Try.func33 rfl rfl (Nat.le_of_ble_eq_true rfl) ?_
  refine AWp.seq ?_
  refine AWp.region ?_
  refine AList.c 4 rfl rfl rfl (OpJ.assign rfl rfl) ?_
  refine AList.nil ?_
  refine AWp.seq ?_
  refine AWp.region ?_
  refine AList.c 7 rfl rfl rfl (OpJ.move rfl rfl) ?_
  refine AList.c 8 rfl rfl rfl (OpJ.callRow 3 (clone_ok need h0 h8) (scI need) rfl rfl rfl rfl rfl rf46) ?_
  refine AList.c 5 rfl rfl rfl (OpJ.assign rfl rfl) ?_
  refine AList.nil ?_
  refine AWp.seq ?_
  refine AWp.seq ?_
  refine AWp.region ?_
  refine AList.c 9 rfl rfl rfl (OpJ.move rfl rfl) ?_
  refine AList.c 10 rfl rfl rfl (OpJ.lenSlice rfl rfl sl22 rfl) ?_
  refine AList.c 11 rfl rfl rfl (OpJ.move rfl rfl) ?_
  refine AList.nil ?_
  refine AWp.block ?_
  refine AWp.loopH [6, 11, 12, 13, 14, 15, 16, 17, 18, 19, 20, 21] (fun g => [(11, .p (.int .i64 ((g : Nat) : Int)))]) (fun g => [.row (((updL need b g).flatMap i1).map .p) 3]) (fun g => g ≤ need.length) (fun g => need.length - g) 0 (Nat.zero_le _) (To.sub (Sub.chd (Sub.cons rfl Sub.nil))) (fun i hg => ?_)
  refine AWp.seq ?_
  refine AWp.region ?_
  refine AList.c 12 rfl rfl rfl (OpJ.lss rfl rfl rfl) ?_
  refine AList.nil ?_
  refine AWp.seq ?_
  refine AWp.cond _ rfl (fun hc0 => ?_) (fun hc0 => ?_)
  · skip
    have hk0 : i < need.length := by have h := of_decide_eq_true hc0; omega
    have hku : i < (updL need b i).length := by rw [updL_length need b i (by omega)]; exact hk0
    have hni := hn need[i] (List.getElem_mem _)
    have hmb := mul_B hni.1 hni.2 b0 b1
    refine AWp.skip ?_
    refine AWp.seq ?_
    refine AWp.block ?_
    refine AWp.seq ?_
    refine AWp.region ?_
    refine AList.c 13 rfl rfl rfl (OpJ.move rfl rfl) ?_
    refine AList.c 6 rfl rfl rfl (OpJ.assign rfl rfl) ?_
    refine AList.nil ?_
    refine AWp.region ?_
    refine AList.c 14 rfl rfl rfl (OpJ.move rfl rfl) ?_
    refine AList.c 15 rfl rfl rfl (OpJ.move rfl rfl) ?_
    refine AList.c 16 rfl rfl rfl (OpJ.indexRow rfl rfl rfl sl22 el22 hk0) ?_
    refine AList.c 17 rfl rfl rfl (OpJ.loadFlat (f := i1) (c := 1) (k := i) (j := 0) (xs := (updL need b i)) rfl rfl ty3 rfl rfl (by omega) (fun _ => rfl) hku (by decide) (show _ = PV.int .i64 need[i] from by rw [updL_get need b i hk0]; rfl)) ?_
    refine AList.c 18 rfl rfl rfl (OpJ.move rfl rfl) ?_
    refine AList.c 19 rfl rfl rfl (OpJ.mul (m := need[i] * b) rfl rfl rfl ((i64ok ?_).trans ?_)) ?_
    · rw [Int.mul_comm]; omega
    · rfl
    refine AList.c 20 rfl rfl rfl (OpJ.indexRow rfl rfl rfl sl22 el22 hk0) ?_
    refine AList.c0 rfl rfl (OpJ.storeRow (f := i1) (c := 1) (k := i) (j := 0) (xs := (updL need b i)) (z := (need[i] * b)) (ws := [_]) rfl rfl rfl rfl rfl ty3 rfl rfl rfl (by omega) (fun _ => rfl) hku (Nat.le_of_ble_eq_true rfl) rfl) ?_
    refine AList.nil ?_
    refine AWp.region ?_
    refine AList.c 21 rfl rfl rfl (OpJ.add rfl rfl rfl (i64ok ?_)) ?_
    · omega
    refine AList.c 11 rfl rfl rfl (OpJ.move rfl rfl) ?_
    refine AList.nil ?_
    refine ⟨i + 1, ?_, ?_, ?_⟩
    · omega
    · omega
    refine To.done [0] rfl (by repeat (first | exact Sub.nil | refine Sub.cons rfl ?_)) ?_
    show [Blk.row (renL _ _) _] = _
    rw [renL_pure, updL_set need b i hk0]
  · skip
    obtain rfl : i = need.length := by have h := of_decide_eq_false hc0; omega
    rw [updL_full]
    refine AWp.exit ?_
    refine AWp.seq ?_
    refine AWp.region ?_
    refine AList.c 22 rfl rfl rfl (OpJ.move rfl rfl) ?_
    refine AList.c 4 rfl rfl rfl (OpJ.assign rfl rfl) ?_
    refine AList.nil ?_
    refine AWp.ret ?_
    exact ⟨.inr rfl, .row 0 need.length, resV.one rfl rfl, rfl, rfl⟩
end Go.Proofs.Ytpamkihpffoflaa
