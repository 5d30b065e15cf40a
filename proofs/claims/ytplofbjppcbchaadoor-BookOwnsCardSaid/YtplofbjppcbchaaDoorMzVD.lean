/-
  Lists are read.
  What open is given.
  What is recovered.
  What open answers.
  What is read.
-/
import Derived.Test.YtplofbjppcbchaaDoorMzVC
import Derived.Test.YtplofbjppcbchaaDoorFaVE
import Derived.Test.YtplofbjppcbchaaDoorMzVP
section
set_option linter.unusedVariables false
set_option maxRecDepth 100000
set_option maxHeartbeats 4000000
set_option linter.unusedSimpArgs false
namespace Go.Proofs.YtplofbjppcbchaaDoor
open Go.AF
theorem listR_ok (r : Bs) (hr : r.length ≤ 65536) : ACallsP Tryd.prog 43 [.ptr 0 0, .p (.int .i64 20), .func (.func 42) [.ptr 0 0] []] [(rB 127 (r))] (fun v H2 => ∃ l, lstG rptR 20 r = some l ∧ v = .p (rptsV l) ∧ H2 = [(rB 127 ([]))]) (fun y _ => lstG rptR 20 r = none ∧ y = (.iface 124 (.agg [.int .i64 8]))) := by
  refine ACallsP.start (N := 23) Tryd.func43 rfl rfl (Nat.le_of_ble_eq_true rfl) ?_
  refine AWp.seq ?_
  refine AWp.region ?_
  refine AList.c 6 rfl rfl rfl (OpJ.assign rfl rfl) ?_
  refine AList.nil ?_
  refine AWp.seq ?_
  refine AWp.block ?_
  refine AWp.loopHL [0, 1, 2, 22] (fun g => [(6, accV 1 g.1.length)]) (fun g => [(rB 127 (g.2)), accB ((g.1.flatMap Rpt.cells).map .p) 33 g.1.length]) (fun g => g.1.length ≤ 20 ∧ g.2.length ≤ r.length ∧ lstG rptR 20 r = (lstG rptR (20 - g.1.length) g.2).map fun y => g.1 ++ y) (fun g => 20 - g.1.length) ([], r) ⟨Nat.zero_le _, Nat.le_refl _, lst_0⟩ (To.pad.trans (To.sub (Sub.chk (Sub.cons rfl Sub.nil)))) (fun g hg => ?_)
  obtain ⟨acc, q⟩ := g
  obtain ⟨hn, hq, hI⟩ := hg
  dsimp only at hn hq hI ⊢
  refine AWp.seq ?_
  refine AWp.seq ?_
  refine AWp.region ?_
  refine AList.c 7 rfl rfl rfl (OpJ.move rfl rfl) ?_
  refine AList.c 8 rfl rfl rfl (OpJ.nilCheck rfl rfl) ?_
  refine AList.c 9 rfl rfl rfl (OpJ.fieldAddr rfl rfl fd127_0 rfl) ?_
  refine AList.c 10 rfl rfl rfl (OpJ.load rfl rfl ty9 rfl) ?_
  refine AList.c 11 rfl rfl rfl (OpJ.strNe _ _ rfl rfl rfl) ?_
  refine AList.nil ?_
  refine AWp.cond _ rfl (fun hc0 => ?_) (fun hc0 => ?_)
  · skip
    have hne : q ≠ [] := by simpa using hc0
    refine AWp.skip ?_
    refine AWp.block ?_
    refine AWp.seq ?_
    refine AWp.seq ?_
    refine AWp.region ?_
    refine AList.c 12 rfl rfl rfl (OpJ.move rfl rfl) ?_
    refine AList.c 13 rfl rfl rfl (OpJ.lenSlice rfl rfl sl22 (alen_acc _ _)) ?_
    refine AList.c 14 rfl rfl rfl (OpJ.move rfl rfl) ?_
    refine AList.c 15 rfl rfl rfl (OpJ.eql rfl rfl rfl) ?_
    refine AList.nil ?_
    refine AWp.cond _ rfl (fun hc1 => ?_) (fun hc1 => ?_)
    · skip
      have hno := lst_full hI (by have h := of_decide_eq_true hc1; omega) hne
      refine AWp.region ?_
      refine AList.callFail 16 (fail_ok) rfl rfl rfl rfl rfl rfl rfl rf68 ⟨_, rfl, hno, rfl⟩
    · skip
      have hk0 : acc.length < 20 := by have h := of_decide_eq_false hc1; omega
      refine AWp.skip ?_
      refine AWp.region ?_
      refine AList.c 17 rfl rfl rfl (OpJ.move rfl rfl) ?_
      refine AList.c 18 rfl rfl rfl (OpJ.move rfl rfl) ?_
      refine AList.callR 19 0 (report_ok q (by omega)) rfl rfl rfl rfl rfl rfl rfl rfl rf42 (fun h => ⟨_, rfl, lst_fail hI hk0 hne (Option.map_eq_none_iff.1 h), rfl⟩) (fun q0 q1 hq2 => ?_)
      obtain ⟨⟨x, q2⟩, k1, hq3⟩ := Option.map_eq_some_iff.1 hq2
      cases hq3
      have gl := rptR_len k1
      refine AList.c 20 rfl rfl rfl (OpJ.buildImm rfl slz22 (by decide) rfl rfl rfl) ?_
      refine AList.c 21 rfl rfl rfl (OpJ.appendAcc rfl rfl rfl slz22 sl22 rfl ?_ rfl (by decide) rfl by33 (by decide) ?_) ?_
      · rw [List.length_map, Go.AF.flat_len (c := 6) (fun _ => rfl)]; rfl
      · show (2 * (acc.length + 1) + 192) * 64 ≤ 281474976710656; omega
      refine AList.c 6 rfl rfl rfl (OpJ.assign rfl rfl) ?_
      refine AList.nil ?_
      refine ⟨(acc ++ [x], q2), ?_, ?_, ?_⟩
      · exact ⟨by rw [List.length_append]; exact hk0, Nat.le_trans gl hq, lst_step hI hk0 hne k1⟩
      · show 20 - (acc ++ [x]).length < 20 - acc.length
        rw [List.length_append]
        show 20 - (acc.length + 1) < _
        omega
      have eLn : (acc ++ [x]).length = acc.length + 1 := by rw [List.length_append]; rfl
      have eL : (acc ++ [x]).flatMap Rpt.cells = acc.flatMap Rpt.cells ++ Rpt.cells x := by rw [List.flatMap_append]; simp
      dsimp only
      rw [eLn, eL]
      refine To.done [0, 2] rfl (by repeat (first | exact Sub.nil | refine Sub.cons rfl ?_)) ?_
      show (_ : Blk) :: [_] = _ :: [_]
      refine List.cons_eq_cons.2 ⟨rfl, ?_⟩
      show [Blk.row (renL _ (_ ++ _)) _] = [Blk.row _ _]
      rw [renL_app, renL_pure, List.map_append]
      rfl
  · skip
    have hz : q = [] := by simpa using hc0
    subst hz
    have he := lst_end hI rfl
    refine AWp.to (To.accD 6 1 acc.length (xs := acc.flatMap Rpt.cells) rfl rfl (fun h => by rw [List.length_eq_zero_iff.1 h]; rfl)) ?_
    refine AWp.exit ?_
    refine AWp.seq ?_
    refine AWp.region ?_
    refine AList.c 22 rfl rfl rfl (OpJ.move rfl rfl) ?_
    refine AList.c 6 rfl rfl rfl (OpJ.assign rfl rfl) ?_
    refine AList.nil ?_
    refine AWp.norm [0] [(6, _)] [(rB 127 ([]))] rfl (by repeat (first | exact Sub.nil | refine Sub.cons rfl ?_)) rfl ?_
    refine AWp.ret ?_
    exact FinOP.one rfl rfl ⟨_, he, rfl, rfl⟩
theorem listP_ok (r : Bs) (hr : r.length ≤ 65536) : ACallsP Tryd.prog 34 [.ptr 0 0, .p (.int .i64 30), .func (.func 33) [.ptr 0 0] []] [(rB 127 (r))] (fun v H2 => ∃ l, lstG pckR 30 r = some l ∧ v = .p (pcksV l) ∧ H2 = [(rB 127 ([]))]) (fun y _ => lstG pckR 30 r = none ∧ y = (.iface 124 (.agg [.int .i64 8]))) := by
  refine ACallsP.start (N := 23) Tryd.func34 rfl rfl (Nat.le_of_ble_eq_true rfl) ?_
  refine AWp.seq ?_
  refine AWp.region ?_
  refine AList.c 6 rfl rfl rfl (OpJ.assign rfl rfl) ?_
  refine AList.nil ?_
  refine AWp.seq ?_
  refine AWp.block ?_
  refine AWp.loopHL [0, 1, 2, 22] (fun g => [(6, accV 1 g.1.length)]) (fun g => [(rB 127 (g.2)), accB ((g.1.flatMap Pck.cells).map .p) 36 g.1.length]) (fun g => g.1.length ≤ 30 ∧ g.2.length ≤ r.length ∧ lstG pckR 30 r = (lstG pckR (30 - g.1.length) g.2).map fun y => g.1 ++ y) (fun g => 30 - g.1.length) ([], r) ⟨Nat.zero_le _, Nat.le_refl _, lst_0⟩ (To.pad.trans (To.sub (Sub.chk (Sub.cons rfl Sub.nil)))) (fun g hg => ?_)
  obtain ⟨acc, q⟩ := g
  obtain ⟨hn, hq, hI⟩ := hg
  dsimp only at hn hq hI ⊢
  refine AWp.seq ?_
  refine AWp.seq ?_
  refine AWp.region ?_
  refine AList.c 7 rfl rfl rfl (OpJ.move rfl rfl) ?_
  refine AList.c 8 rfl rfl rfl (OpJ.nilCheck rfl rfl) ?_
  refine AList.c 9 rfl rfl rfl (OpJ.fieldAddr rfl rfl fd127_0 rfl) ?_
  refine AList.c 10 rfl rfl rfl (OpJ.load rfl rfl ty9 rfl) ?_
  refine AList.c 11 rfl rfl rfl (OpJ.strNe _ _ rfl rfl rfl) ?_
  refine AList.nil ?_
  refine AWp.cond _ rfl (fun hc0 => ?_) (fun hc0 => ?_)
  · skip
    have hne : q ≠ [] := by simpa using hc0
    refine AWp.skip ?_
    refine AWp.block ?_
    refine AWp.seq ?_
    refine AWp.seq ?_
    refine AWp.region ?_
    refine AList.c 12 rfl rfl rfl (OpJ.move rfl rfl) ?_
    refine AList.c 13 rfl rfl rfl (OpJ.lenSlice rfl rfl sl24 (alen_acc _ _)) ?_
    refine AList.c 14 rfl rfl rfl (OpJ.move rfl rfl) ?_
    refine AList.c 15 rfl rfl rfl (OpJ.eql rfl rfl rfl) ?_
    refine AList.nil ?_
    refine AWp.cond _ rfl (fun hc1 => ?_) (fun hc1 => ?_)
    · skip
      have hno := lst_full hI (by have h := of_decide_eq_true hc1; omega) hne
      refine AWp.region ?_
      refine AList.callFail 16 (fail_ok) rfl rfl rfl rfl rfl rfl rfl rf68 ⟨_, rfl, hno, rfl⟩
    · skip
      have hk0 : acc.length < 30 := by have h := of_decide_eq_false hc1; omega
      refine AWp.skip ?_
      refine AWp.region ?_
      refine AList.c 17 rfl rfl rfl (OpJ.move rfl rfl) ?_
      refine AList.c 18 rfl rfl rfl (OpJ.move rfl rfl) ?_
      refine AList.callR 19 0 (pack_ok q (by omega)) rfl rfl rfl rfl rfl rfl rfl rfl rf33 (fun h => ⟨_, rfl, lst_fail hI hk0 hne (Option.map_eq_none_iff.1 h), rfl⟩) (fun q0 q1 hq2 => ?_)
      obtain ⟨⟨x, q2⟩, k1, hq3⟩ := Option.map_eq_some_iff.1 hq2
      cases hq3
      have gl := pckR_len k1
      refine AList.c 20 rfl rfl rfl (OpJ.buildImm rfl slz24 (by decide) rfl rfl rfl) ?_
      refine AList.c 21 rfl rfl rfl (OpJ.appendAcc rfl rfl rfl slz24 sl24 rfl ?_ rfl (by decide) rfl by36 (by decide) ?_) ?_
      · rw [List.length_map, Go.AF.flat_len (c := 2) (fun _ => rfl)]; rfl
      · show (2 * (acc.length + 1) + 192) * 32 ≤ 281474976710656; omega
      refine AList.c 6 rfl rfl rfl (OpJ.assign rfl rfl) ?_
      refine AList.nil ?_
      refine ⟨(acc ++ [x], q2), ?_, ?_, ?_⟩
      · exact ⟨by rw [List.length_append]; exact hk0, Nat.le_trans gl hq, lst_step hI hk0 hne k1⟩
      · show 30 - (acc ++ [x]).length < 30 - acc.length
        rw [List.length_append]
        show 30 - (acc.length + 1) < _
        omega
      have eLn : (acc ++ [x]).length = acc.length + 1 := by rw [List.length_append]; rfl
      have eL : (acc ++ [x]).flatMap Pck.cells = acc.flatMap Pck.cells ++ Pck.cells x := by rw [List.flatMap_append]; simp
      dsimp only
      rw [eLn, eL]
      refine To.done [0, 2] rfl (by repeat (first | exact Sub.nil | refine Sub.cons rfl ?_)) ?_
      show (_ : Blk) :: [_] = _ :: [_]
      refine List.cons_eq_cons.2 ⟨rfl, ?_⟩
      show [Blk.row (renL _ (_ ++ _)) _] = [Blk.row _ _]
      rw [renL_app, renL_pure, List.map_append]
      rfl
  · skip
    have hz : q = [] := by simpa using hc0
    subst hz
    have he := lst_end hI rfl
    refine AWp.to (To.accD 6 1 acc.length (xs := acc.flatMap Pck.cells) rfl rfl (fun h => by rw [List.length_eq_zero_iff.1 h]; rfl)) ?_
    refine AWp.exit ?_
    refine AWp.seq ?_
    refine AWp.region ?_
    refine AList.c 22 rfl rfl rfl (OpJ.move rfl rfl) ?_
    refine AList.c 6 rfl rfl rfl (OpJ.assign rfl rfl) ?_
    refine AList.nil ?_
    refine AWp.norm [0] [(6, _)] [(rB 127 ([]))] rfl (by repeat (first | exact Sub.nil | refine Sub.cons rfl ?_)) rfl ?_
    refine AWp.ret ?_
    exact FinOP.one rfl rfl ⟨_, he, rfl, rfl⟩
end Go.Proofs.YtplofbjppcbchaaDoor
end

section
set_option linter.unusedVariables false
set_option maxRecDepth 100000
set_option maxHeartbeats 4000000
set_option linter.unusedSimpArgs false
namespace Go.Proofs.YtplofbjppcbchaaDoor
open Go.AF
theorem readR_ok (r : Bs) (hr : r.length ≤ 65536) : ACallsR Tryd.prog 127 (.iface 124 (.agg [.int .i64 8])) 41 [] (r) ((lstG rptR 20 r).map fun l => (rptsV l, [])) := by
  refine ACallsP.start (N := 9) Tryd.func41 rfl rfl (Nat.le_of_ble_eq_true rfl) ?_
  refine AWp.seq ?_
  refine AWp.region ?_
  refine AList.c 2 rfl rfl rfl (OpJ.assign rfl rfl) ?_
  refine AList.nil ?_
  refine AWp.seq ?_
  refine AWp.region ?_
  refine AList.c 4 rfl rfl rfl (OpJ.move rfl rfl) ?_
  refine AList.c 5 rfl rfl rfl (OpJ.makeFunc rfl rfl rfl) ?_
  refine AList.c 3 rfl rfl rfl (OpJ.assign rfl rfl) ?_
  refine AList.nil ?_
  refine AWp.seq ?_
  refine AWp.region ?_
  refine AList.c 6 rfl rfl rfl (OpJ.move rfl rfl) ?_
  refine AList.c 7 rfl rfl rfl (OpJ.move rfl rfl) ?_
  refine AList.callP 8 (listR_ok r hr) rfl rfl rfl rfl rfl rfl rfl rf43 (fun y H2 h => ⟨_, rfl, by rw [h.1]; rfl, h.2⟩) (fun v H2 hv => ?_)
  obtain ⟨l, hl, rfl, rfl⟩ := hv
  refine AList.c 2 rfl rfl rfl (OpJ.assign rfl rfl) ?_
  refine AList.nil ?_
  refine AWp.ret ?_
  exact FinOP.one rfl rfl ⟨_, _, by rw [hl]; rfl, rfl, rfl⟩
theorem readP_ok (r : Bs) (hr : r.length ≤ 65536) : ACallsR Tryd.prog 127 (.iface 124 (.agg [.int .i64 8])) 32 [] (r) ((lstG pckR 30 r).map fun l => (pcksV l, [])) := by
  refine ACallsP.start (N := 9) Tryd.func32 rfl rfl (Nat.le_of_ble_eq_true rfl) ?_
  refine AWp.seq ?_
  refine AWp.region ?_
  refine AList.c 2 rfl rfl rfl (OpJ.assign rfl rfl) ?_
  refine AList.nil ?_
  refine AWp.seq ?_
  refine AWp.region ?_
  refine AList.c 4 rfl rfl rfl (OpJ.move rfl rfl) ?_
  refine AList.c 5 rfl rfl rfl (OpJ.makeFunc rfl rfl rfl) ?_
  refine AList.c 3 rfl rfl rfl (OpJ.assign rfl rfl) ?_
  refine AList.nil ?_
  refine AWp.seq ?_
  refine AWp.region ?_
  refine AList.c 6 rfl rfl rfl (OpJ.move rfl rfl) ?_
  refine AList.c 7 rfl rfl rfl (OpJ.move rfl rfl) ?_
  refine AList.callP 8 (listP_ok r hr) rfl rfl rfl rfl rfl rfl rfl rf34 (fun y H2 h => ⟨_, rfl, by rw [h.1]; rfl, h.2⟩) (fun v H2 hv => ?_)
  obtain ⟨l, hl, rfl, rfl⟩ := hv
  refine AList.c 2 rfl rfl rfl (OpJ.assign rfl rfl) ?_
  refine AList.nil ?_
  refine AWp.ret ?_
  exact FinOP.one rfl rfl ⟨_, _, by rw [hl]; rfl, rfl, rfl⟩
end Go.Proofs.YtplofbjppcbchaaDoor
end

section
set_option linter.unusedVariables false
set_option maxRecDepth 100000
set_option maxHeartbeats 4000000
set_option linter.unusedSimpArgs false
namespace Go.Proofs.YtplofbjppcbchaaDoor
open Go.AF
theorem recR_none {H : List Blk} {Hq : List Blk → Prop} (hH : Hq H) : DRec Tryd.prog 74 [.ptr 0 0, .ptr 1 0] H none Hq := by
  refine DRec.start (N := 18) Tryd.func74 rfl rfl (Nat.le_of_ble_eq_true rfl) (res0 rfl) rfl rfl rfl rfl rfl rfl rfl rfl ?_
  refine AWp.seq ?_
  refine AWp.region ?_
  refine AList.c 6 rfl rfl rfl (OpJ.move rfl rfl) ?_
  refine AList.c 7 rfl rfl rfl (OpJ.ifNeNil rfl rfl ifc20) ?_
  refine AList.nil ?_
  refine AWp.cond _ rfl (fun hc0 => ?_) (fun hc0 => ?_)
  · skip
    cases hc0
  · skip
    refine AWp.skip ?_
    exact ⟨.inl rfl, hH⟩
theorem recR_some {Hq : List Blk → Prop} (hH : ∀ rest, Hq (.cells [.p .nilSlice] 22 :: .cells [.p (.int .i64 8)] 37 :: rest)) : DRec Tryd.prog 74 [.ptr 0 0, .ptr 1 0] [.cells [.p .nilSlice] 22, .cells [.p (.int .i64 0)] 37, .dead] (some (.iface 124 (.agg [.int .i64 8]))) Hq := by
  refine DRec.start (N := 18) Tryd.func74 rfl rfl (Nat.le_of_ble_eq_true rfl) (res0 rfl) rfl rfl rfl rfl rfl rfl rfl rfl ?_
  refine AWp.seq ?_
  refine AWp.region ?_
  refine AList.c 6 rfl rfl rfl (OpJ.move rfl rfl) ?_
  refine AList.c 7 rfl rfl rfl (OpJ.ifNe rfl rfl ifc20) ?_
  refine AList.nil ?_
  refine AWp.cond _ rfl (fun hc0 => ?_) (fun hc0 => ?_)
  · skip
    refine AWp.seq ?_
    refine AWp.region ?_
    refine AList.c 9 rfl rfl rfl (OpJ.move rfl rfl) ?_
    refine AList.c 10 rfl rfl rfl (OpJ.taG rfl rfl con124 (⟨124, _, rfl, .inl ⟨rfl, rfl⟩⟩)) ?_
    refine AList.c 8 rfl rfl rfl (OpJ.move rfl rfl) ?_
    refine AList.c 11 rfl rfl rfl (OpJ.extract rfl rfl rfl) ?_
    refine AList.c 12 rfl rfl rfl (OpJ.extract rfl rfl rfl) ?_
    refine AList.c 3 rfl rfl rfl (OpJ.allocOwn rfl zr124 rfl) ?_
    refine AList.c0 rfl rfl (OpJ.store rfl rfl rfl rfl rfl ty124 rfl rfl) ?_
    refine AList.c 4 rfl rfl rfl (OpJ.assign rfl rfl) ?_
    refine AList.nil ?_
    refine AWp.seq ?_
    refine AWp.seq ?_
    refine AWp.region ?_
    refine AList.c 13 rfl rfl rfl (OpJ.move rfl rfl) ?_
    refine AList.c 14 rfl rfl rfl (OpJ.not_ rfl rfl) ?_
    refine AList.nil ?_
    refine AWp.cond _ rfl (fun hc1 => ?_) (fun hc1 => ?_)
    · skip
      cases hc1
    · skip
      refine AWp.skip ?_
      refine AWp.regionDrawG 3 0 [0] [([], false), ([3], false), ([0], true)] mixed (by kernel_rfl) (by decide) (by kernel_rfl) rfl rfl ?_
      refine AQG.cons 16 rfl rfl rfl (fun _ => (OpJ.fieldAddr rfl rfl fd124_0 rfl)) rfl ?_
      refine AQG.cons 17 rfl rfl rfl (fun _ => (OpJ.load rfl rfl ty37 rfl)) rfl ?_
      refine AQG.put 0 rfl rfl rfl rfl (fun _ => (OpJ.store rfl rfl rfl rfl rfl ty22 rfl rfl)) rfl rfl ?_
      refine AQG.nil ?_
      refine AList.c0 rfl rfl (OpJ.store rfl rfl rfl rfl rfl ty37 rfl rfl) ?_
      refine AList.nil ?_
      exact ⟨.inl rfl, hH _⟩
  · skip
    cases hc0
theorem recC_none {H : List Blk} {Hq : List Blk → Prop} (hH : Hq H) : DRec Tryd.prog 76 [.ptr 0 0, .ptr 1 0] H none Hq := by
  refine DRec.start (N := 18) Tryd.func76 rfl rfl (Nat.le_of_ble_eq_true rfl) (res0 rfl) rfl rfl rfl rfl rfl rfl rfl rfl ?_
  refine AWp.seq ?_
  refine AWp.region ?_
  refine AList.c 6 rfl rfl rfl (OpJ.move rfl rfl) ?_
  refine AList.c 7 rfl rfl rfl (OpJ.ifNeNil rfl rfl ifc20) ?_
  refine AList.nil ?_
  refine AWp.cond _ rfl (fun hc0 => ?_) (fun hc0 => ?_)
  · skip
    cases hc0
  · skip
    refine AWp.skip ?_
    exact ⟨.inl rfl, hH⟩
theorem recC_some {Hq : List Blk → Prop} (hH : ∀ rest, Hq (.cells [.p .nilSlice] 23 :: .cells [.p (.int .i64 8)] 37 :: rest)) : DRec Tryd.prog 76 [.ptr 0 0, .ptr 1 0] [.cells [.p .nilSlice] 23, .cells [.p (.int .i64 0)] 37, .dead] (some (.iface 124 (.agg [.int .i64 8]))) Hq := by
  refine DRec.start (N := 18) Tryd.func76 rfl rfl (Nat.le_of_ble_eq_true rfl) (res0 rfl) rfl rfl rfl rfl rfl rfl rfl rfl ?_
  refine AWp.seq ?_
  refine AWp.region ?_
  refine AList.c 6 rfl rfl rfl (OpJ.move rfl rfl) ?_
  refine AList.c 7 rfl rfl rfl (OpJ.ifNe rfl rfl ifc20) ?_
  refine AList.nil ?_
  refine AWp.cond _ rfl (fun hc0 => ?_) (fun hc0 => ?_)
  · skip
    refine AWp.seq ?_
    refine AWp.region ?_
    refine AList.c 9 rfl rfl rfl (OpJ.move rfl rfl) ?_
    refine AList.c 10 rfl rfl rfl (OpJ.taG rfl rfl con124 (⟨124, _, rfl, .inl ⟨rfl, rfl⟩⟩)) ?_
    refine AList.c 8 rfl rfl rfl (OpJ.move rfl rfl) ?_
    refine AList.c 11 rfl rfl rfl (OpJ.extract rfl rfl rfl) ?_
    refine AList.c 12 rfl rfl rfl (OpJ.extract rfl rfl rfl) ?_
    refine AList.c 3 rfl rfl rfl (OpJ.allocOwn rfl zr124 rfl) ?_
    refine AList.c0 rfl rfl (OpJ.store rfl rfl rfl rfl rfl ty124 rfl rfl) ?_
    refine AList.c 4 rfl rfl rfl (OpJ.assign rfl rfl) ?_
    refine AList.nil ?_
    refine AWp.seq ?_
    refine AWp.seq ?_
    refine AWp.region ?_
    refine AList.c 13 rfl rfl rfl (OpJ.move rfl rfl) ?_
    refine AList.c 14 rfl rfl rfl (OpJ.not_ rfl rfl) ?_
    refine AList.nil ?_
    refine AWp.cond _ rfl (fun hc1 => ?_) (fun hc1 => ?_)
    · skip
      cases hc1
    · skip
      refine AWp.skip ?_
      refine AWp.regionDrawG 3 0 [0] [([], false), ([3], false), ([0], true)] mixed (by kernel_rfl) (by decide) (by kernel_rfl) rfl rfl ?_
      refine AQG.cons 16 rfl rfl rfl (fun _ => (OpJ.fieldAddr rfl rfl fd124_0 rfl)) rfl ?_
      refine AQG.cons 17 rfl rfl rfl (fun _ => (OpJ.load rfl rfl ty37 rfl)) rfl ?_
      refine AQG.put 0 rfl rfl rfl rfl (fun _ => (OpJ.store rfl rfl rfl rfl rfl ty23 rfl rfl)) rfl rfl ?_
      refine AQG.nil ?_
      refine AList.c0 rfl rfl (OpJ.store rfl rfl rfl rfl rfl ty37 rfl rfl) ?_
      refine AList.nil ?_
      exact ⟨.inl rfl, hH _⟩
  · skip
    cases hc0
theorem recP_none {H : List Blk} {Hq : List Blk → Prop} (hH : Hq H) : DRec Tryd.prog 63 [.ptr 0 0, .ptr 1 0] H none Hq := by
  refine DRec.start (N := 18) Tryd.func63 rfl rfl (Nat.le_of_ble_eq_true rfl) (res0 rfl) rfl rfl rfl rfl rfl rfl rfl rfl ?_
  refine AWp.seq ?_
  refine AWp.region ?_
  refine AList.c 6 rfl rfl rfl (OpJ.move rfl rfl) ?_
  refine AList.c 7 rfl rfl rfl (OpJ.ifNeNil rfl rfl ifc20) ?_
  refine AList.nil ?_
  refine AWp.cond _ rfl (fun hc0 => ?_) (fun hc0 => ?_)
  · skip
    cases hc0
  · skip
    refine AWp.skip ?_
    exact ⟨.inl rfl, hH⟩
theorem recP_some {Hq : List Blk → Prop} (hH : ∀ rest, Hq (.cells [.p .nilSlice] 24 :: .cells [.p (.int .i64 8)] 37 :: rest)) : DRec Tryd.prog 63 [.ptr 0 0, .ptr 1 0] [.cells [.p .nilSlice] 24, .cells [.p (.int .i64 0)] 37, .dead] (some (.iface 124 (.agg [.int .i64 8]))) Hq := by
  refine DRec.start (N := 18) Tryd.func63 rfl rfl (Nat.le_of_ble_eq_true rfl) (res0 rfl) rfl rfl rfl rfl rfl rfl rfl rfl ?_
  refine AWp.seq ?_
  refine AWp.region ?_
  refine AList.c 6 rfl rfl rfl (OpJ.move rfl rfl) ?_
  refine AList.c 7 rfl rfl rfl (OpJ.ifNe rfl rfl ifc20) ?_
  refine AList.nil ?_
  refine AWp.cond _ rfl (fun hc0 => ?_) (fun hc0 => ?_)
  · skip
    refine AWp.seq ?_
    refine AWp.region ?_
    refine AList.c 9 rfl rfl rfl (OpJ.move rfl rfl) ?_
    refine AList.c 10 rfl rfl rfl (OpJ.taG rfl rfl con124 (⟨124, _, rfl, .inl ⟨rfl, rfl⟩⟩)) ?_
    refine AList.c 8 rfl rfl rfl (OpJ.move rfl rfl) ?_
    refine AList.c 11 rfl rfl rfl (OpJ.extract rfl rfl rfl) ?_
    refine AList.c 12 rfl rfl rfl (OpJ.extract rfl rfl rfl) ?_
    refine AList.c 3 rfl rfl rfl (OpJ.allocOwn rfl zr124 rfl) ?_
    refine AList.c0 rfl rfl (OpJ.store rfl rfl rfl rfl rfl ty124 rfl rfl) ?_
    refine AList.c 4 rfl rfl rfl (OpJ.assign rfl rfl) ?_
    refine AList.nil ?_
    refine AWp.seq ?_
    refine AWp.seq ?_
    refine AWp.region ?_
    refine AList.c 13 rfl rfl rfl (OpJ.move rfl rfl) ?_
    refine AList.c 14 rfl rfl rfl (OpJ.not_ rfl rfl) ?_
    refine AList.nil ?_
    refine AWp.cond _ rfl (fun hc1 => ?_) (fun hc1 => ?_)
    · skip
      cases hc1
    · skip
      refine AWp.skip ?_
      refine AWp.regionDrawG 3 0 [0] [([], false), ([3], false), ([0], true)] mixed (by kernel_rfl) (by decide) (by kernel_rfl) rfl rfl ?_
      refine AQG.cons 16 rfl rfl rfl (fun _ => (OpJ.fieldAddr rfl rfl fd124_0 rfl)) rfl ?_
      refine AQG.cons 17 rfl rfl rfl (fun _ => (OpJ.load rfl rfl ty37 rfl)) rfl ?_
      refine AQG.put 0 rfl rfl rfl rfl (fun _ => (OpJ.store rfl rfl rfl rfl rfl ty24 rfl rfl)) rfl rfl ?_
      refine AQG.nil ?_
      refine AList.c0 rfl rfl (OpJ.store rfl rfl rfl rfl rfl ty37 rfl rfl) ?_
      refine AList.nil ?_
      exact ⟨.inl rfl, hH _⟩
  · skip
    cases hc0
end Go.Proofs.YtplofbjppcbchaaDoor
end

section
set_option linter.unusedVariables false
set_option maxRecDepth 100000
set_option maxHeartbeats 4000000
set_option linter.unusedSimpArgs false
namespace Go.Proofs.YtplofbjppcbchaaDoor
open Go.AF
theorem openR_ok_big (s : Bs) (hbig : 65536 < s.length) : Pure Tryd.prog 40 [.str (sB s), (.func (.func 41) [] []), (.func (.func 20) [] [])] (.tuple [(opnP (lstG rptR 20) rptsB rptsV s).1, .int .i64 (opnP (lstG rptR 20) rptsB rptsV s).2]) := by
  refine Pure.start (N := 22) Tryd.func40 rfl rfl (Nat.le_of_ble_eq_true rfl) ?_
  refine AWp.seq ?_
  refine AWp.region ?_
  refine AList.c 6 rfl rfl rfl (OpJ.allocOwn rfl zr22 rfl) ?_
  refine AList.c 7 rfl rfl rfl (OpJ.allocOwn rfl zr37 rfl) ?_
  refine AList.nil ?_
  refine AWp.seq ?_
  refine AWp.seq ?_
  refine AWp.region ?_
  refine AList.c 8 rfl rfl rfl (OpJ.move rfl rfl) ?_
  refine AList.c 9 rfl rfl rfl (OpJ.lenStr rfl rfl un9) ?_
  refine AList.c 10 rfl rfl rfl (OpJ.gtr rfl rfl rfl) ?_
  refine AList.nil ?_
  refine AWp.cond _ rfl (fun hc0 => ?_) (fun hc0 => ?_)
  · skip
    refine AWp.seq ?_
    refine AWp.region ?_
    refine AList.c0 rfl rfl (OpJ.store rfl rfl rfl rfl rfl ty22 rfl rfl) ?_
    refine AList.c0 rfl rfl (OpJ.store rfl rfl rfl rfl rfl ty37 rfl rfl) ?_
    refine AList.nil ?_
    refine AWp.ret ?_
    refine Fin.manyE (xs := [.nilSlice, .int .i64 3]) rfl (⟨_, _, rfl, ⟨_, _, _, rfl, ty22, rfl⟩, ⟨_, _, rfl, ⟨_, _, _, rfl, ty37, rfl⟩, rfl⟩⟩) rfl ?_
    rw [opn_big hbig]
  · skip
    exfalso
    have h := of_decide_eq_false hc0
    rw [sB_size] at h
    omega
theorem openR_ok_small (s : Bs) (hs : s.length ≤ 65536) : Pure Tryd.prog 40 [.str (sB s), (.func (.func 41) [] []), (.func (.func 20) [] [])] (.tuple [(opnP (lstG rptR 20) rptsB rptsV s).1, .int .i64 (opnP (lstG rptR 20) rptsB rptsV s).2]) := by
  refine Pure.of_calls (ACalls.startD (N := 22) (g := 74) (dm := 11) (T1 := [(0, .p (.str (sB s))), (1, .p (.func (.func 41) [] [])), (2, .p (.func (.func 20) [] [])), (6, .ptr 0 0), (7, .ptr 1 0)]) (H1 := [.cells [.p .nilSlice] 22, .cells [.p (.int .i64 0)] 37]) (caps := [.ptr 0 0, .ptr 1 0]) Tryd.func40 rfl rfl (Nat.le_of_ble_eq_true rfl) ?_ (OpJ.makeFunc (fi := []) (ca := [.ptr 0 0, .ptr 1 0]) rfl rfl rfl) rfl rfl rfl rfl rfl rfl rf74 ?_)
  · skip
    refine AWp.region ?_
    refine AList.c 6 rfl rfl rfl (OpJ.allocOwn rfl zr22 rfl) ?_
    refine AList.c 7 rfl rfl rfl (OpJ.allocOwn rfl zr37 rfl) ?_
    refine AList.nil ?_
    refine AWp.seq ?_
    refine AWp.region ?_
    refine AList.c 8 rfl rfl rfl (OpJ.move rfl rfl) ?_
    refine AList.c 9 rfl rfl rfl (OpJ.lenStr rfl rfl un9) ?_
    refine AList.c 10 rfl rfl rfl (OpJ.gtr rfl rfl rfl) ?_
    refine AList.nil ?_
    refine AWp.cond _ rfl (fun hc0 => ?_) (fun hc0 => ?_)
    · skip
      exfalso
      have h := of_decide_eq_true hc0
      rw [sB_size] at h
      omega
    · skip
      refine AWp.skip ?_
      exact ⟨(by repeat (first | exact Sub.nil | refine Sub.cons rfl ?_)), rfl⟩
  · skip
    refine AWp.seq ?_
    refine AWp.seq ?_
    refine AWp.region ?_
    refine AList.c 12 rfl rfl rfl (OpJ.move rfl rfl) ?_
    refine AList.c 13 rfl rfl rfl (OpJ.move rfl rfl) ?_
    refine AList.c 14 rfl rfl rfl (OpJ.build rfl bd127 rfl rfl) ?_
    refine AList.c 15 rfl rfl rfl (OpJ.boxOwn rfl rfl rfl) ?_
    refine AList.callR 16 2 (readR_ok s hs) rfl rfl rfl rfl rfl rfl rfl rfl rf41 (fun hn => ⟨_, rfl, recR_some (fun rest => ⟨_, resV.many (vs := [.p .nilSlice, .p (.int .i64 8)]) rfl (⟨_, _, rfl, ⟨_, _, _, rfl, ty22, rfl⟩, ⟨_, _, rfl, ⟨_, _, _, rfl, ty37, rfl⟩, rfl⟩⟩), by rw [opn_no hs (Option.map_eq_none_iff.1 hn)]; rfl⟩)⟩) (fun q0 q1 hq => ?_)
    obtain ⟨l, hl, hq2⟩ := Option.map_eq_some_iff.1 hq
    cases hq2
    refine AList.c0 rfl rfl (OpJ.store rfl rfl rfl rfl rfl ty22 rfl rfl) ?_
    refine AList.nil ?_
    refine AWp.seq ?_
    refine AWp.region ?_
    refine AList.c 17 rfl rfl rfl (OpJ.move rfl rfl) ?_
    refine AList.c 18 rfl rfl rfl (OpJ.load (v := .p (rptsV l)) rfl rfl ty22 rfl) ?_
    refine AList.c 19 rfl rfl rfl (OpJ.callP (areReports_ok l (rpts_n hs hl).1 (rpts_n hs hl).2) rfl rfl rfl rfl rf20) ?_
    refine AList.c 20 rfl rfl rfl (OpJ.not_ rfl rfl) ?_
    refine AList.nil ?_
    refine AWp.cond _ rfl (fun hc1 => ?_) (fun hc1 => ?_)
    · skip
      have hbad : rptsB l = false := by simpa using hc1
      refine AWp.seq ?_
      refine AWp.region ?_
      refine AList.c0 rfl rfl (OpJ.store rfl rfl rfl rfl rfl ty22 rfl rfl) ?_
      refine AList.c0 rfl rfl (OpJ.store rfl rfl rfl rfl rfl ty37 rfl rfl) ?_
      refine AList.nil ?_
      refine AWp.ret ?_
      exact recR_none ⟨_, resV.many (vs := [.p .nilSlice, .p (.int .i64 8)]) rfl (⟨_, _, rfl, ⟨_, _, _, rfl, ty22, rfl⟩, ⟨_, _, rfl, ⟨_, _, _, rfl, ty37, rfl⟩, rfl⟩⟩), by rw [opn_bad hs hl hbad]; rfl⟩
    · skip
      have hok : rptsB l = true := by simpa using hc1
      refine AWp.skip ?_
      refine AWp.seq ?_
      refine AWp.region ?_
      refine AList.c 21 rfl rfl rfl (OpJ.load rfl rfl ty22 rfl) ?_
      refine AList.c0 rfl rfl (OpJ.store rfl rfl rfl rfl rfl ty22 rfl rfl) ?_
      refine AList.c0 rfl rfl (OpJ.store rfl rfl rfl rfl rfl ty37 rfl rfl) ?_
      refine AList.nil ?_
      refine AWp.ret ?_
      exact recR_none ⟨_, resV.many (vs := [.p (rptsV l), .p (.int .i64 0)]) rfl (⟨_, _, rfl, ⟨_, _, _, rfl, ty22, rfl⟩, ⟨_, _, rfl, ⟨_, _, _, rfl, ty37, rfl⟩, rfl⟩⟩), by rw [opn_ok hs hl hok]; rfl⟩
theorem openR_ok (s : Bs) : Pure Tryd.prog 40 [.str (sB s), (.func (.func 41) [] []), (.func (.func 20) [] [])] (.tuple [(opnP (lstG rptR 20) rptsB rptsV s).1, .int .i64 (opnP (lstG rptR 20) rptsB rptsV s).2]) := by
  rcases Nat.lt_or_ge 65536 s.length with h | h
  · exact openR_ok_big s h
  · exact openR_ok_small s h
theorem openC_ok_big (s : Bs) (hbig : 65536 < s.length) : Pure Tryd.prog 44 [.str (sB s), (.func (.func 45) [] []), (.func (.func 23) [] [])] (.tuple [(opnP crdsL crdsB crdsV s).1, .int .i64 (opnP crdsL crdsB crdsV s).2]) := by
  refine Pure.start (N := 22) Tryd.func44 rfl rfl (Nat.le_of_ble_eq_true rfl) ?_
  refine AWp.seq ?_
  refine AWp.region ?_
  refine AList.c 6 rfl rfl rfl (OpJ.allocOwn rfl zr23 rfl) ?_
  refine AList.c 7 rfl rfl rfl (OpJ.allocOwn rfl zr37 rfl) ?_
  refine AList.nil ?_
  refine AWp.seq ?_
  refine AWp.seq ?_
  refine AWp.region ?_
  refine AList.c 8 rfl rfl rfl (OpJ.move rfl rfl) ?_
  refine AList.c 9 rfl rfl rfl (OpJ.lenStr rfl rfl un9) ?_
  refine AList.c 10 rfl rfl rfl (OpJ.gtr rfl rfl rfl) ?_
  refine AList.nil ?_
  refine AWp.cond _ rfl (fun hc0 => ?_) (fun hc0 => ?_)
  · skip
    refine AWp.seq ?_
    refine AWp.region ?_
    refine AList.c0 rfl rfl (OpJ.store rfl rfl rfl rfl rfl ty23 rfl rfl) ?_
    refine AList.c0 rfl rfl (OpJ.store rfl rfl rfl rfl rfl ty37 rfl rfl) ?_
    refine AList.nil ?_
    refine AWp.ret ?_
    refine Fin.manyE (xs := [.nilSlice, .int .i64 3]) rfl (⟨_, _, rfl, ⟨_, _, _, rfl, ty23, rfl⟩, ⟨_, _, rfl, ⟨_, _, _, rfl, ty37, rfl⟩, rfl⟩⟩) rfl ?_
    rw [opn_big hbig]
  · skip
    exfalso
    have h := of_decide_eq_false hc0
    rw [sB_size] at h
    omega
theorem openC_ok_small (s : Bs) (hs : s.length ≤ 65536) : Pure Tryd.prog 44 [.str (sB s), (.func (.func 45) [] []), (.func (.func 23) [] [])] (.tuple [(opnP crdsL crdsB crdsV s).1, .int .i64 (opnP crdsL crdsB crdsV s).2]) := by
  refine Pure.of_calls (ACalls.startD (N := 22) (g := 76) (dm := 11) (T1 := [(0, .p (.str (sB s))), (1, .p (.func (.func 45) [] [])), (2, .p (.func (.func 23) [] [])), (6, .ptr 0 0), (7, .ptr 1 0)]) (H1 := [.cells [.p .nilSlice] 23, .cells [.p (.int .i64 0)] 37]) (caps := [.ptr 0 0, .ptr 1 0]) Tryd.func44 rfl rfl (Nat.le_of_ble_eq_true rfl) ?_ (OpJ.makeFunc (fi := []) (ca := [.ptr 0 0, .ptr 1 0]) rfl rfl rfl) rfl rfl rfl rfl rfl rfl rf76 ?_)
  · skip
    refine AWp.region ?_
    refine AList.c 6 rfl rfl rfl (OpJ.allocOwn rfl zr23 rfl) ?_
    refine AList.c 7 rfl rfl rfl (OpJ.allocOwn rfl zr37 rfl) ?_
    refine AList.nil ?_
    refine AWp.seq ?_
    refine AWp.region ?_
    refine AList.c 8 rfl rfl rfl (OpJ.move rfl rfl) ?_
    refine AList.c 9 rfl rfl rfl (OpJ.lenStr rfl rfl un9) ?_
    refine AList.c 10 rfl rfl rfl (OpJ.gtr rfl rfl rfl) ?_
    refine AList.nil ?_
    refine AWp.cond _ rfl (fun hc0 => ?_) (fun hc0 => ?_)
    · skip
      exfalso
      have h := of_decide_eq_true hc0
      rw [sB_size] at h
      omega
    · skip
      refine AWp.skip ?_
      exact ⟨(by repeat (first | exact Sub.nil | refine Sub.cons rfl ?_)), rfl⟩
  · skip
    refine AWp.seq ?_
    refine AWp.seq ?_
    refine AWp.region ?_
    refine AList.c 12 rfl rfl rfl (OpJ.move rfl rfl) ?_
    refine AList.c 13 rfl rfl rfl (OpJ.move rfl rfl) ?_
    refine AList.c 14 rfl rfl rfl (OpJ.build rfl bd127 rfl rfl) ?_
    refine AList.c 15 rfl rfl rfl (OpJ.boxOwn rfl rfl rfl) ?_
    refine AList.callR 16 2 (cards_ok s hs) rfl rfl rfl rfl rfl rfl rfl rfl rf45 (fun hn => ⟨_, rfl, recC_some (fun rest => ⟨_, resV.many (vs := [.p .nilSlice, .p (.int .i64 8)]) rfl (⟨_, _, rfl, ⟨_, _, _, rfl, ty23, rfl⟩, ⟨_, _, rfl, ⟨_, _, _, rfl, ty37, rfl⟩, rfl⟩⟩), by rw [opn_no hs (crdsL_no (Option.map_eq_none_iff.1 hn))]; rfl⟩)⟩) (fun q0 q1 hq => ?_)
    obtain ⟨⟨l, q⟩, hl0, hq2⟩ := Option.map_eq_some_iff.1 hq
    cases hq2
    have hl := crdsL_of hl0
    refine AList.c0 rfl rfl (OpJ.store rfl rfl rfl rfl rfl ty23 rfl rfl) ?_
    refine AList.nil ?_
    refine AWp.seq ?_
    refine AWp.region ?_
    refine AList.c 17 rfl rfl rfl (OpJ.move rfl rfl) ?_
    refine AList.c 18 rfl rfl rfl (OpJ.load (v := .p (crdsV l)) rfl rfl ty23 rfl) ?_
    refine AList.c 19 rfl rfl rfl (OpJ.callP (areCards_ok l (crds_n hl)) rfl rfl rfl rfl rf23) ?_
    refine AList.c 20 rfl rfl rfl (OpJ.not_ rfl rfl) ?_
    refine AList.nil ?_
    refine AWp.cond _ rfl (fun hc1 => ?_) (fun hc1 => ?_)
    · skip
      have hbad : crdsB l = false := by simpa using hc1
      refine AWp.seq ?_
      refine AWp.region ?_
      refine AList.c0 rfl rfl (OpJ.store rfl rfl rfl rfl rfl ty23 rfl rfl) ?_
      refine AList.c0 rfl rfl (OpJ.store rfl rfl rfl rfl rfl ty37 rfl rfl) ?_
      refine AList.nil ?_
      refine AWp.ret ?_
      exact recC_none ⟨_, resV.many (vs := [.p .nilSlice, .p (.int .i64 8)]) rfl (⟨_, _, rfl, ⟨_, _, _, rfl, ty23, rfl⟩, ⟨_, _, rfl, ⟨_, _, _, rfl, ty37, rfl⟩, rfl⟩⟩), by rw [opn_bad hs hl hbad]; rfl⟩
    · skip
      have hok : crdsB l = true := by simpa using hc1
      refine AWp.skip ?_
      refine AWp.seq ?_
      refine AWp.region ?_
      refine AList.c 21 rfl rfl rfl (OpJ.load rfl rfl ty23 rfl) ?_
      refine AList.c0 rfl rfl (OpJ.store rfl rfl rfl rfl rfl ty23 rfl rfl) ?_
      refine AList.c0 rfl rfl (OpJ.store rfl rfl rfl rfl rfl ty37 rfl rfl) ?_
      refine AList.nil ?_
      refine AWp.ret ?_
      exact recC_none ⟨_, resV.many (vs := [.p (crdsV l), .p (.int .i64 0)]) rfl (⟨_, _, rfl, ⟨_, _, _, rfl, ty23, rfl⟩, ⟨_, _, rfl, ⟨_, _, _, rfl, ty37, rfl⟩, rfl⟩⟩), by rw [opn_ok hs hl hok]; rfl⟩
theorem openC_ok (s : Bs) : Pure Tryd.prog 44 [.str (sB s), (.func (.func 45) [] []), (.func (.func 23) [] [])] (.tuple [(opnP crdsL crdsB crdsV s).1, .int .i64 (opnP crdsL crdsB crdsV s).2]) := by
  rcases Nat.lt_or_ge 65536 s.length with h | h
  · exact openC_ok_big s h
  · exact openC_ok_small s h
theorem openP_ok_big (s : Bs) (hbig : 65536 < s.length) : Pure Tryd.prog 31 [.str (sB s), (.func (.func 32) [] []), (.func (.func 29) [] [])] (.tuple [(opnP (lstG pckR 30) pcksB pcksV s).1, .int .i64 (opnP (lstG pckR 30) pcksB pcksV s).2]) := by
  refine Pure.start (N := 22) Tryd.func31 rfl rfl (Nat.le_of_ble_eq_true rfl) ?_
  refine AWp.seq ?_
  refine AWp.region ?_
  refine AList.c 6 rfl rfl rfl (OpJ.allocOwn rfl zr24 rfl) ?_
  refine AList.c 7 rfl rfl rfl (OpJ.allocOwn rfl zr37 rfl) ?_
  refine AList.nil ?_
  refine AWp.seq ?_
  refine AWp.seq ?_
  refine AWp.region ?_
  refine AList.c 8 rfl rfl rfl (OpJ.move rfl rfl) ?_
  refine AList.c 9 rfl rfl rfl (OpJ.lenStr rfl rfl un9) ?_
  refine AList.c 10 rfl rfl rfl (OpJ.gtr rfl rfl rfl) ?_
  refine AList.nil ?_
  refine AWp.cond _ rfl (fun hc0 => ?_) (fun hc0 => ?_)
  · skip
    refine AWp.seq ?_
    refine AWp.region ?_
    refine AList.c0 rfl rfl (OpJ.store rfl rfl rfl rfl rfl ty24 rfl rfl) ?_
    refine AList.c0 rfl rfl (OpJ.store rfl rfl rfl rfl rfl ty37 rfl rfl) ?_
    refine AList.nil ?_
    refine AWp.ret ?_
    refine Fin.manyE (xs := [.nilSlice, .int .i64 3]) rfl (⟨_, _, rfl, ⟨_, _, _, rfl, ty24, rfl⟩, ⟨_, _, rfl, ⟨_, _, _, rfl, ty37, rfl⟩, rfl⟩⟩) rfl ?_
    rw [opn_big hbig]
  · skip
    exfalso
    have h := of_decide_eq_false hc0
    rw [sB_size] at h
    omega
theorem openP_ok_small (s : Bs) (hs : s.length ≤ 65536) : Pure Tryd.prog 31 [.str (sB s), (.func (.func 32) [] []), (.func (.func 29) [] [])] (.tuple [(opnP (lstG pckR 30) pcksB pcksV s).1, .int .i64 (opnP (lstG pckR 30) pcksB pcksV s).2]) := by
  refine Pure.of_calls (ACalls.startD (N := 22) (g := 63) (dm := 11) (T1 := [(0, .p (.str (sB s))), (1, .p (.func (.func 32) [] [])), (2, .p (.func (.func 29) [] [])), (6, .ptr 0 0), (7, .ptr 1 0)]) (H1 := [.cells [.p .nilSlice] 24, .cells [.p (.int .i64 0)] 37]) (caps := [.ptr 0 0, .ptr 1 0]) Tryd.func31 rfl rfl (Nat.le_of_ble_eq_true rfl) ?_ (OpJ.makeFunc (fi := []) (ca := [.ptr 0 0, .ptr 1 0]) rfl rfl rfl) rfl rfl rfl rfl rfl rfl rf63 ?_)
  · skip
    refine AWp.region ?_
    refine AList.c 6 rfl rfl rfl (OpJ.allocOwn rfl zr24 rfl) ?_
    refine AList.c 7 rfl rfl rfl (OpJ.allocOwn rfl zr37 rfl) ?_
    refine AList.nil ?_
    refine AWp.seq ?_
    refine AWp.region ?_
    refine AList.c 8 rfl rfl rfl (OpJ.move rfl rfl) ?_
    refine AList.c 9 rfl rfl rfl (OpJ.lenStr rfl rfl un9) ?_
    refine AList.c 10 rfl rfl rfl (OpJ.gtr rfl rfl rfl) ?_
    refine AList.nil ?_
    refine AWp.cond _ rfl (fun hc0 => ?_) (fun hc0 => ?_)
    · skip
      exfalso
      have h := of_decide_eq_true hc0
      rw [sB_size] at h
      omega
    · skip
      refine AWp.skip ?_
      exact ⟨(by repeat (first | exact Sub.nil | refine Sub.cons rfl ?_)), rfl⟩
  · skip
    refine AWp.seq ?_
    refine AWp.seq ?_
    refine AWp.region ?_
    refine AList.c 12 rfl rfl rfl (OpJ.move rfl rfl) ?_
    refine AList.c 13 rfl rfl rfl (OpJ.move rfl rfl) ?_
    refine AList.c 14 rfl rfl rfl (OpJ.build rfl bd127 rfl rfl) ?_
    refine AList.c 15 rfl rfl rfl (OpJ.boxOwn rfl rfl rfl) ?_
    refine AList.callR 16 2 (readP_ok s hs) rfl rfl rfl rfl rfl rfl rfl rfl rf32 (fun hn => ⟨_, rfl, recP_some (fun rest => ⟨_, resV.many (vs := [.p .nilSlice, .p (.int .i64 8)]) rfl (⟨_, _, rfl, ⟨_, _, _, rfl, ty24, rfl⟩, ⟨_, _, rfl, ⟨_, _, _, rfl, ty37, rfl⟩, rfl⟩⟩), by rw [opn_no hs (Option.map_eq_none_iff.1 hn)]; rfl⟩)⟩) (fun q0 q1 hq => ?_)
    obtain ⟨l, hl, hq2⟩ := Option.map_eq_some_iff.1 hq
    cases hq2
    refine AList.c0 rfl rfl (OpJ.store rfl rfl rfl rfl rfl ty24 rfl rfl) ?_
    refine AList.nil ?_
    refine AWp.seq ?_
    refine AWp.region ?_
    refine AList.c 17 rfl rfl rfl (OpJ.move rfl rfl) ?_
    refine AList.c 18 rfl rfl rfl (OpJ.load (v := .p (pcksV l)) rfl rfl ty24 rfl) ?_
    refine AList.c 19 rfl rfl rfl (OpJ.callP (arePacks_ok l (pcks_n hs hl).1 (pcks_n hs hl).2) rfl rfl rfl rfl rf29) ?_
    refine AList.c 20 rfl rfl rfl (OpJ.not_ rfl rfl) ?_
    refine AList.nil ?_
    refine AWp.cond _ rfl (fun hc1 => ?_) (fun hc1 => ?_)
    · skip
      have hbad : pcksB l = false := by simpa using hc1
      refine AWp.seq ?_
      refine AWp.region ?_
      refine AList.c0 rfl rfl (OpJ.store rfl rfl rfl rfl rfl ty24 rfl rfl) ?_
      refine AList.c0 rfl rfl (OpJ.store rfl rfl rfl rfl rfl ty37 rfl rfl) ?_
      refine AList.nil ?_
      refine AWp.ret ?_
      exact recP_none ⟨_, resV.many (vs := [.p .nilSlice, .p (.int .i64 8)]) rfl (⟨_, _, rfl, ⟨_, _, _, rfl, ty24, rfl⟩, ⟨_, _, rfl, ⟨_, _, _, rfl, ty37, rfl⟩, rfl⟩⟩), by rw [opn_bad hs hl hbad]; rfl⟩
    · skip
      have hok : pcksB l = true := by simpa using hc1
      refine AWp.skip ?_
      refine AWp.seq ?_
      refine AWp.region ?_
      refine AList.c 21 rfl rfl rfl (OpJ.load rfl rfl ty24 rfl) ?_
      refine AList.c0 rfl rfl (OpJ.store rfl rfl rfl rfl rfl ty24 rfl rfl) ?_
      refine AList.c0 rfl rfl (OpJ.store rfl rfl rfl rfl rfl ty37 rfl rfl) ?_
      refine AList.nil ?_
      refine AWp.ret ?_
      exact recP_none ⟨_, resV.many (vs := [.p (pcksV l), .p (.int .i64 0)]) rfl (⟨_, _, rfl, ⟨_, _, _, rfl, ty24, rfl⟩, ⟨_, _, rfl, ⟨_, _, _, rfl, ty37, rfl⟩, rfl⟩⟩), by rw [opn_ok hs hl hok]; rfl⟩
theorem openP_ok (s : Bs) : Pure Tryd.prog 31 [.str (sB s), (.func (.func 32) [] []), (.func (.func 29) [] [])] (.tuple [(opnP (lstG pckR 30) pcksB pcksV s).1, .int .i64 (opnP (lstG pckR 30) pcksB pcksV s).2]) := by
  rcases Nat.lt_or_ge 65536 s.length with h | h
  · exact openP_ok_big s h
  · exact openP_ok_small s h
end Go.Proofs.YtplofbjppcbchaaDoor
end

section
set_option linter.unusedVariables false
set_option maxRecDepth 100000
set_option maxHeartbeats 4000000
set_option linter.unusedSimpArgs false
namespace Go.Proofs.YtplofbjppcbchaaDoor
open Go.AF
theorem readReports_ok (s : Bs) : Pure Tryd.prog 17 [.str (sB s)] (.tuple [(opR s).1, .int .i64 (opR s).2]) := by
  refine Pure.start (N := 8) Tryd.func17 rfl rfl (Nat.le_of_ble_eq_true rfl) ?_
  refine AWp.seq ?_
  refine AWp.region ?_
  refine AList.c 2 rfl rfl rfl (OpJ.assign rfl rfl) ?_
  refine AList.c 3 rfl rfl rfl (OpJ.assign rfl rfl) ?_
  refine AList.nil ?_
  refine AWp.seq ?_
  refine AWp.region ?_
  refine AList.c 4 rfl rfl rfl (OpJ.move rfl rfl) ?_
  refine AList.c 5 rfl rfl rfl (OpJ.callP (openR_ok s) rfl rfl rfl rfl rf40) ?_
  refine AList.c 6 rfl rfl rfl (OpJ.extract rfl rfl rfl) ?_
  refine AList.c 7 rfl rfl rfl (OpJ.extract rfl rfl rfl) ?_
  refine AList.c 2 rfl rfl rfl (OpJ.assign rfl rfl) ?_
  refine AList.c 3 rfl rfl rfl (OpJ.assign rfl rfl) ?_
  refine AList.nil ?_
  refine AWp.ret ?_
  exact Fin.many (xs := [(opR s).1, .int .i64 (opR s).2]) rfl ⟨_, _, rfl, rfl, ⟨_, _, rfl, rfl, rfl⟩⟩ rfl
theorem readPacks_ok (s : Bs) : Pure Tryd.prog 9 [.str (sB s)] (.tuple [(rdP s).1, .int .i64 (rdP s).2]) := by
  refine Pure.start (N := 25) Tryd.func9 rfl rfl (Nat.le_of_ble_eq_true rfl) ?_
  refine AWp.seq ?_
  refine AWp.region ?_
  refine AList.c 2 rfl rfl rfl (OpJ.assign rfl rfl) ?_
  refine AList.c 3 rfl rfl rfl (OpJ.assign rfl rfl) ?_
  refine AList.nil ?_
  refine AWp.seq ?_
  refine AWp.region ?_
  refine AList.c 9 rfl rfl rfl (OpJ.move rfl rfl) ?_
  refine AList.c 10 rfl rfl rfl (OpJ.callP (openP_ok s) rfl rfl rfl rfl rf31) ?_
  refine AList.c 8 rfl rfl rfl (OpJ.move rfl rfl) ?_
  refine AList.c 11 rfl rfl rfl (OpJ.extract rfl rfl rfl) ?_
  refine AList.c 12 rfl rfl rfl (OpJ.extract rfl rfl rfl) ?_
  refine AList.c 4 rfl rfl rfl (OpJ.assign rfl rfl) ?_
  refine AList.c 5 rfl rfl rfl (OpJ.assign rfl rfl) ?_
  refine AList.nil ?_
  refine AWp.seq ?_
  refine AWp.seq ?_
  refine AWp.region ?_
  refine AList.c 13 rfl rfl rfl (OpJ.move rfl rfl) ?_
  refine AList.c 14 rfl rfl rfl (OpJ.neq rfl rfl rfl) ?_
  refine AList.nil ?_
  refine AWp.cond _ rfl (fun hc0 => ?_) (fun hc0 => ?_)
  · skip
    have hz : (opP s).2 ≠ 0 := by simpa using hc0
    refine AWp.seq ?_
    refine AWp.region ?_
    refine AList.c 15 rfl rfl rfl (OpJ.move rfl rfl) ?_
    refine AList.c 2 rfl rfl rfl (OpJ.assign rfl rfl) ?_
    refine AList.c 3 rfl rfl rfl (OpJ.assign rfl rfl) ?_
    refine AList.nil ?_
    refine AWp.ret ?_
    refine Fin.manyE (xs := [.nilSlice, .int .i64 (opP s).2]) rfl ⟨_, _, rfl, rfl, ⟨_, _, rfl, rfl, rfl⟩⟩ rfl ?_
    rw [rdP_e hz]
  · skip
    have hz : (opP s).2 = 0 := by simpa using hc0
    obtain ⟨hs, l, hl, hok, hE⟩ := opn_zero hz
    rw [hE]
    dsimp only
    refine AWp.skip ?_
    refine AWp.seq ?_
    refine AWp.seq ?_
    refine AWp.region ?_
    refine AList.c 17 rfl rfl rfl (OpJ.move rfl rfl) ?_
    refine AList.c 18 rfl rfl rfl (OpJ.callP (writePacks_ok l (pcks_n hs hl).1 (pcks_n hs hl).2) rfl rfl rfl rfl rf8) ?_
    refine AList.c 16 rfl rfl rfl (OpJ.move rfl rfl) ?_
    refine AList.c 19 rfl rfl rfl (OpJ.extract rfl rfl rfl) ?_
    refine AList.c 20 rfl rfl rfl (OpJ.extract rfl rfl rfl) ?_
    refine AList.c 6 rfl rfl rfl (OpJ.assign rfl rfl) ?_
    refine AList.c 7 rfl rfl rfl (OpJ.assign rfl rfl) ?_
    refine AList.nil ?_
    refine AWp.seq ?_
    refine AWp.region ?_
    refine AList.c 21 rfl rfl rfl (OpJ.move rfl rfl) ?_
    refine AList.c 22 rfl rfl rfl (OpJ.move rfl rfl) ?_
    refine AList.c 23 rfl rfl rfl (OpJ.strNe _ _ rfl rfl rfl) ?_
    refine AList.nil ?_
    refine AWp.cond _ rfl (fun hc1 => ?_) (fun hc1 => ?_)
    · skip
      have hw : (wrP l).1 ≠ s := by simpa using hc1
      refine AWp.seq ?_
      refine AWp.region ?_
      refine AList.c 2 rfl rfl rfl (OpJ.assign rfl rfl) ?_
      refine AList.c 3 rfl rfl rfl (OpJ.assign rfl rfl) ?_
      refine AList.nil ?_
      refine AWp.ret ?_
      refine Fin.manyE (xs := [.nilSlice, .int .i64 8]) rfl ⟨_, _, rfl, rfl, ⟨_, _, rfl, rfl, rfl⟩⟩ rfl ?_
      rw [rdP_no hz hl hw]
    · skip
      have hw : (wrP l).1 = s := by simpa using hc1
      refine AWp.skip ?_
      refine AWp.seq ?_
      refine AWp.region ?_
      refine AList.c 24 rfl rfl rfl (OpJ.move rfl rfl) ?_
      refine AList.c 2 rfl rfl rfl (OpJ.assign rfl rfl) ?_
      refine AList.c 3 rfl rfl rfl (OpJ.assign rfl rfl) ?_
      refine AList.nil ?_
      refine AWp.ret ?_
      refine Fin.manyE (xs := [pcksV l, .int .i64 0]) rfl ⟨_, _, rfl, rfl, ⟨_, _, rfl, rfl, rfl⟩⟩ rfl ?_
      rw [rdP_ok hz hl hw]
theorem readCards_ok (s : Bs) : Pure Tryd.prog 18 [.str (sB s)] (.tuple [(rdC s).1, .int .i64 (rdC s).2]) := by
  refine Pure.start (N := 27) Tryd.func18 rfl rfl (Nat.le_of_ble_eq_true rfl) ?_
  refine AWp.seq ?_
  refine AWp.region ?_
  refine AList.c 2 rfl rfl rfl (OpJ.assign rfl rfl) ?_
  refine AList.c 3 rfl rfl rfl (OpJ.assign rfl rfl) ?_
  refine AList.nil ?_
  refine AWp.seq ?_
  refine AWp.region ?_
  refine AList.c 8 rfl rfl rfl (OpJ.move rfl rfl) ?_
  refine AList.c 9 rfl rfl rfl (OpJ.callP (openC_ok s) rfl rfl rfl rfl rf44) ?_
  refine AList.c 7 rfl rfl rfl (OpJ.move rfl rfl) ?_
  refine AList.c 10 rfl rfl rfl (OpJ.extract rfl rfl rfl) ?_
  refine AList.c 11 rfl rfl rfl (OpJ.extract rfl rfl rfl) ?_
  refine AList.c 4 rfl rfl rfl (OpJ.assign rfl rfl) ?_
  refine AList.c 5 rfl rfl rfl (OpJ.assign rfl rfl) ?_
  refine AList.nil ?_
  refine AWp.seq ?_
  refine AWp.seq ?_
  refine AWp.region ?_
  refine AList.c 12 rfl rfl rfl (OpJ.move rfl rfl) ?_
  refine AList.c 13 rfl rfl rfl (OpJ.neq rfl rfl rfl) ?_
  refine AList.nil ?_
  refine AWp.cond _ rfl (fun hc0 => ?_) (fun hc0 => ?_)
  · skip
    have hz : (opC s).2 ≠ 0 := by simpa using hc0
    refine AWp.seq ?_
    refine AWp.region ?_
    refine AList.c 14 rfl rfl rfl (OpJ.move rfl rfl) ?_
    refine AList.c 2 rfl rfl rfl (OpJ.assign rfl rfl) ?_
    refine AList.c 3 rfl rfl rfl (OpJ.assign rfl rfl) ?_
    refine AList.nil ?_
    refine AWp.ret ?_
    refine Fin.manyE (xs := [.nilSlice, .int .i64 (opC s).2]) rfl ⟨_, _, rfl, rfl, ⟨_, _, rfl, rfl, rfl⟩⟩ rfl ?_
    rw [rdC_e hz]
  · skip
    have hz : (opC s).2 = 0 := by simpa using hc0
    obtain ⟨hs, l, hl, hok, hE⟩ := opn_zero hz
    have hs0 := crds_ne hl
    rw [hE]
    dsimp only
    refine AWp.skip ?_
    refine AWp.seq ?_
    refine AWp.seq ?_
    refine AWp.region ?_
    refine AList.c 15 rfl rfl rfl (OpJ.move rfl rfl) ?_
    refine AList.c 16 rfl rfl rfl (OpJ.lenStr rfl rfl un9) ?_
    refine AList.c 17 rfl rfl rfl (OpJ.sub_ (m := ((s.length - 1 : Nat) : Int)) rfl rfl rfl ((i64ok ?_).trans ?_)) ?_
    · rw [sB_size]; omega
    · rw [sB_size]; omega
    refine AList.c 6 rfl rfl rfl (OpJ.assign rfl rfl) ?_
    refine AList.nil ?_
    refine AWp.seq ?_
    refine AWp.regionDraw 8 mixed (by kernel_rfl) (by decide) ?_
    refine AQuiet.cons 18 rfl rfl rfl (OpJ.move rfl rfl) ?_
    refine AQuiet.cons 19 rfl rfl rfl (OpJ.move rfl rfl) ?_
    refine AQuiet.cons 20 rfl rfl rfl (OpJ.strCut s 0 (s.length - 1) rfl rfl st9 rfl ⟨_, rfl⟩ (Nat.zero_le _) (by omega)) ?_
    refine AQuiet.cons 21 rfl rfl rfl (OpJ.callP (sum_ok _ (by rw [List.length_take]; omega)) rfl rfl rfl rfl rf28) ?_
    refine AQuiet.cons 22 rfl rfl rfl (OpJ.move rfl rfl) ?_
    refine AQuiet.cons 23 rfl rfl rfl (OpJ.move rfl rfl) ?_
    refine AQuiet.cons 24 rfl rfl rfl (OpJ.strIx s (s.length - 1) (gt 0 s (s.length - 1)) rfl rfl rfl st9 (by rw [List.getElem?_eq_getElem (by omega), gt_get 0 (s.length - 1) (by omega)])) ?_
    refine AQuiet.cons 25 rfl rfl rfl (OpJ.neq rfl rfl rfl) ?_
    refine AQuiet.nil ?_
    refine AList.nil ?_
    refine AWp.cond _ rfl (fun hc1 => ?_) (fun hc1 => ?_)
    · skip
      have hw : sumB (s.take (s.length - 1)) ≠ gt 0 s (s.length - 1) := (crd_sum (a := sumB (s.take (s.length - 1))) hc1).1 rfl
      refine AWp.seq ?_
      refine AWp.region ?_
      refine AList.c 2 rfl rfl rfl (OpJ.assign rfl rfl) ?_
      refine AList.c 3 rfl rfl rfl (OpJ.assign rfl rfl) ?_
      refine AList.nil ?_
      refine AWp.ret ?_
      refine Fin.manyE (xs := [.nilSlice, .int .i64 11]) rfl ⟨_, _, rfl, rfl, ⟨_, _, rfl, rfl, rfl⟩⟩ rfl ?_
      rw [rdC_no hz hw]
    · skip
      have hw : sumB (s.take (s.length - 1)) = gt 0 s (s.length - 1) := by have h := crd_sum (a := sumB (s.take (s.length - 1))) hc1; exact Decidable.byContradiction fun e => by have := h.2 e; cases this
      refine AWp.skip ?_
      refine AWp.seq ?_
      refine AWp.region ?_
      refine AList.c 26 rfl rfl rfl (OpJ.move rfl rfl) ?_
      refine AList.c 2 rfl rfl rfl (OpJ.assign rfl rfl) ?_
      refine AList.c 3 rfl rfl rfl (OpJ.assign rfl rfl) ?_
      refine AList.nil ?_
      refine AWp.ret ?_
      refine Fin.manyE (xs := [crdsV l, .int .i64 0]) rfl ⟨_, _, rfl, rfl, ⟨_, _, rfl, rfl, rfl⟩⟩ rfl ?_
      rw [rdC_ok hz hE hw]
end Go.Proofs.YtplofbjppcbchaaDoor
end
