/-
  Lists are read.
  What open is given.
  What is recovered.
  What open answers.
  What is read.
  Sameness.
  Sameness of reports; what the law fixes.
-/
import Derived.Test.YtbnemnhmejmeeaaGreatDoorNqC
import Derived.Test.YtbnemnhmejmeeaaGreatDoorFaE
import Derived.Test.YtbnemnhmejmeeaaGreatDoorNqP
section
set_option linter.unusedVariables false
set_option maxRecDepth 100000
set_option maxHeartbeats 4000000
set_option linter.unusedSimpArgs false
namespace Go.Proofs.YtbnemnhmejmeeaaGreatDoor.Bk
open Go.AF
theorem listR_ok (r : Bs) (hr : r.length ≤ 65536) : ACallsP Tryz.prog 30 [.ptr 0 0, .p (.int .i64 20), .func (.func 29) [.ptr 0 0] []] [(rB 150 (r))] (fun v H2 => ∃ l, lstG rptR 20 r = some l ∧ v = .p (rptsV l) ∧ H2 = [(rB 150 ([]))]) (fun y _ => lstG rptR 20 r = none ∧ y = (.iface 147 (.agg [.int .i64 8]))) := by
  refine ACallsP.start (N := 23) Tryz.func30 rfl rfl (Nat.le_of_ble_eq_true rfl) ?_
  refine AWp.seq ?_
  refine AWp.region ?_
  refine AList.c 6 rfl rfl rfl (OpJ.assign rfl rfl) ?_
  refine AList.nil ?_
  refine AWp.seq ?_
  refine AWp.block ?_
  refine AWp.loopHL [0, 1, 2, 22] (fun g => [(6, accV 1 g.1.length)]) (fun g => [(rB 150 (g.2)), accB ((g.1.flatMap Rpt.cells).map .p) 35 g.1.length]) (fun g => g.1.length ≤ 20 ∧ g.2.length ≤ r.length ∧ lstG rptR 20 r = (lstG rptR (20 - g.1.length) g.2).map fun y => g.1 ++ y) (fun g => 20 - g.1.length) ([], r) ⟨Nat.zero_le _, Nat.le_refl _, lst_0⟩ (To.pad.trans (To.sub (Sub.chk (Sub.cons rfl Sub.nil)))) (fun g hg => ?_)
  obtain ⟨acc, q⟩ := g
  obtain ⟨hn, hq, hI⟩ := hg
  dsimp only at hn hq hI ⊢
  refine AWp.seq ?_
  refine AWp.seq ?_
  refine AWp.region ?_
  refine AList.c 7 rfl rfl rfl (OpJ.move rfl rfl) ?_
  refine AList.c 8 rfl rfl rfl (OpJ.nilCheck rfl rfl) ?_
  refine AList.c 9 rfl rfl rfl (OpJ.fieldAddr rfl rfl fd150_0 rfl) ?_
  refine AList.c 10 rfl rfl rfl (OpJ.load rfl rfl ty9 rfl) ?_
  refine AList.c 11 rfl rfl rfl (OpJ.strNe _ _ rfl rfl rfl) ?_
  refine AList.nil ?_
  refine AWp.cond _ rfl (fun hc0 => ?_) (fun hc0 => ?_)
  · skip
    have hne : q ≠ [] := by simpa using hc0
    refine AWp.skip ?_
    refine AWp.block ?_
    refine AWp.seq ?_
    refine AWp.seq ?_
    refine AWp.region ?_
    refine AList.c 12 rfl rfl rfl (OpJ.move rfl rfl) ?_
    refine AList.c 13 rfl rfl rfl (OpJ.lenSlice rfl rfl sl28 (alen_acc _ _)) ?_
    refine AList.c 14 rfl rfl rfl (OpJ.move rfl rfl) ?_
    refine AList.c 15 rfl rfl rfl (OpJ.eql rfl rfl rfl) ?_
    refine AList.nil ?_
    refine AWp.cond _ rfl (fun hc1 => ?_) (fun hc1 => ?_)
    · skip
      have hno := lst_full hI (by have h := of_decide_eq_true hc1; omega) hne
      refine AWp.region ?_
      refine AList.callFail 16 (fail_ok) rfl rfl rfl rfl rfl rfl rfl rf75 ⟨_, rfl, hno, rfl⟩
    · skip
      have hk0 : acc.length < 20 := by have h := of_decide_eq_false hc1; omega
      refine AWp.skip ?_
      refine AWp.region ?_
      refine AList.c 17 rfl rfl rfl (OpJ.move rfl rfl) ?_
      refine AList.c 18 rfl rfl rfl (OpJ.move rfl rfl) ?_
      refine AList.callR 19 0 (report_ok q (by omega)) rfl rfl rfl rfl rfl rfl rfl rfl rf29 (fun h => ⟨_, rfl, lst_fail hI hk0 hne (Option.map_eq_none_iff.1 h), rfl⟩) (fun q0 q1 hq2 => ?_)
      obtain ⟨⟨x, q2⟩, k1, hq3⟩ := Option.map_eq_some_iff.1 hq2
      cases hq3
      have gl := rptR_len k1
      refine AList.c 20 rfl rfl rfl (OpJ.buildImm rfl slz28 (by decide) rfl rfl rfl) ?_
      refine AList.c 21 rfl rfl rfl (OpJ.appendAcc rfl rfl rfl slz28 sl28 rfl ?_ rfl (by decide) rfl by35 (by decide) ?_) ?_
      · rw [List.length_map, Go.AF.flat_len (c := 6) (fun _ => rfl)]; rfl
      · show (2 * (acc.length + 1) + 192) * 64 ≤ 281474976710656; omega
      refine AList.c 6 rfl rfl rfl (OpJ.assign rfl rfl) ?_
      refine AList.nil ?_
      refine ⟨(acc ++ [x], q2), ?_, ?_, ?_⟩
      · exact ⟨by rw [List.length_append]; exact hk0, Nat.le_trans gl hq, lst_step hI hk0 hne k1⟩
      · show 20 - (acc ++ [x]).length < 20 - acc.length
        rw [List.length_append]
        show 20 - (acc.length + 1) < _
        omega
      have eLn : (acc ++ [x]).length = acc.length + 1 := by rw [List.length_append]; rfl
      have eL : (acc ++ [x]).flatMap Rpt.cells = acc.flatMap Rpt.cells ++ Rpt.cells x := by rw [List.flatMap_append]; simp
      dsimp only
      rw [eLn, eL]
      refine To.done [0, 2] rfl (by repeat (first | exact Sub.nil | refine Sub.cons rfl ?_)) ?_
      show (_ : Blk) :: [_] = _ :: [_]
      refine List.cons_eq_cons.2 ⟨rfl, ?_⟩
      show [Blk.row (renL _ (_ ++ _)) _] = [Blk.row _ _]
      rw [renL_app, renL_pure, List.map_append]
      rfl
  · skip
    have hz : q = [] := by simpa using hc0
    subst hz
    have he := lst_end hI rfl
    refine AWp.to (To.accD 6 1 acc.length (xs := acc.flatMap Rpt.cells) rfl rfl (fun h => by rw [List.length_eq_zero_iff.1 h]; rfl)) ?_
    refine AWp.exit ?_
    refine AWp.seq ?_
    refine AWp.region ?_
    refine AList.c 22 rfl rfl rfl (OpJ.move rfl rfl) ?_
    refine AList.c 6 rfl rfl rfl (OpJ.assign rfl rfl) ?_
    refine AList.nil ?_
    refine AWp.norm [0] [(6, _)] [(rB 150 ([]))] rfl (by repeat (first | exact Sub.nil | refine Sub.cons rfl ?_)) rfl ?_
    refine AWp.ret ?_
    exact FinOP.one rfl rfl ⟨_, he, rfl, rfl⟩
end Go.Proofs.YtbnemnhmejmeeaaGreatDoor.Bk
end

section
set_option linter.unusedVariables false
set_option maxRecDepth 100000
set_option maxHeartbeats 4000000
set_option linter.unusedSimpArgs false
namespace Go.Proofs.YtbnemnhmejmeeaaGreatDoor.Bk
open Go.AF
theorem readR_ok (r : Bs) (hr : r.length ≤ 65536) : ACallsR Tryz.prog 150 (.iface 147 (.agg [.int .i64 8])) 28 [] (r) ((lstG rptR 20 r).map fun l => (rptsV l, [])) := by
  refine ACallsP.start (N := 9) Tryz.func28 rfl rfl (Nat.le_of_ble_eq_true rfl) ?_
  refine AWp.seq ?_
  refine AWp.region ?_
  refine AList.c 2 rfl rfl rfl (OpJ.assign rfl rfl) ?_
  refine AList.nil ?_
  refine AWp.seq ?_
  refine AWp.region ?_
  refine AList.c 4 rfl rfl rfl (OpJ.move rfl rfl) ?_
  refine AList.c 5 rfl rfl rfl (OpJ.makeFunc rfl rfl rfl) ?_
  refine AList.c 3 rfl rfl rfl (OpJ.assign rfl rfl) ?_
  refine AList.nil ?_
  refine AWp.seq ?_
  refine AWp.region ?_
  refine AList.c 6 rfl rfl rfl (OpJ.move rfl rfl) ?_
  refine AList.c 7 rfl rfl rfl (OpJ.move rfl rfl) ?_
  refine AList.callP 8 (listR_ok r hr) rfl rfl rfl rfl rfl rfl rfl rf30 (fun y H2 h => ⟨_, rfl, by rw [h.1]; rfl, h.2⟩) (fun v H2 hv => ?_)
  obtain ⟨l, hl, rfl, rfl⟩ := hv
  refine AList.c 2 rfl rfl rfl (OpJ.assign rfl rfl) ?_
  refine AList.nil ?_
  refine AWp.ret ?_
  exact FinOP.one rfl rfl ⟨_, _, by rw [hl]; rfl, rfl, rfl⟩
end Go.Proofs.YtbnemnhmejmeeaaGreatDoor.Bk
end

section
set_option linter.unusedVariables false
set_option maxRecDepth 100000
set_option maxHeartbeats 4000000
set_option linter.unusedSimpArgs false
namespace Go.Proofs.YtbnemnhmejmeeaaGreatDoor.Bk
open Go.AF
theorem recR_none {H : List Blk} {Hq : List Blk → Prop} (hH : Hq H) : DRec Tryz.prog 70 [.ptr 0 0, .ptr 1 0] H none Hq := by
  refine DRec.start (N := 18) Tryz.func70 rfl rfl (Nat.le_of_ble_eq_true rfl) (res0 rfl) rfl rfl rfl rfl rfl rfl rfl rfl ?_
  refine AWp.seq ?_
  refine AWp.region ?_
  refine AList.c 6 rfl rfl rfl (OpJ.move rfl rfl) ?_
  refine AList.c 7 rfl rfl rfl (OpJ.ifNeNil rfl rfl ifc20) ?_
  refine AList.nil ?_
  refine AWp.cond _ rfl (fun hc0 => ?_) (fun hc0 => ?_)
  · skip
    cases hc0
  · skip
    refine AWp.skip ?_
    exact ⟨.inl rfl, hH⟩
theorem recR_some {Hq : List Blk → Prop} (hH : ∀ rest, Hq (.cells [.p .nilSlice] 28 :: .cells [.p (.int .i64 8)] 36 :: rest)) : DRec Tryz.prog 70 [.ptr 0 0, .ptr 1 0] [.cells [.p .nilSlice] 28, .cells [.p (.int .i64 0)] 36, .dead] (some (.iface 147 (.agg [.int .i64 8]))) Hq := by
  refine DRec.start (N := 18) Tryz.func70 rfl rfl (Nat.le_of_ble_eq_true rfl) (res0 rfl) rfl rfl rfl rfl rfl rfl rfl rfl ?_
  refine AWp.seq ?_
  refine AWp.region ?_
  refine AList.c 6 rfl rfl rfl (OpJ.move rfl rfl) ?_
  refine AList.c 7 rfl rfl rfl (OpJ.ifNe rfl rfl ifc20) ?_
  refine AList.nil ?_
  refine AWp.cond _ rfl (fun hc0 => ?_) (fun hc0 => ?_)
  · skip
    refine AWp.seq ?_
    refine AWp.region ?_
    refine AList.c 9 rfl rfl rfl (OpJ.move rfl rfl) ?_
    refine AList.c 10 rfl rfl rfl (OpJ.taG rfl rfl con147 (⟨147, _, rfl, .inl ⟨rfl, rfl⟩⟩)) ?_
    refine AList.c 8 rfl rfl rfl (OpJ.move rfl rfl) ?_
    refine AList.c 11 rfl rfl rfl (OpJ.extract rfl rfl rfl) ?_
    refine AList.c 12 rfl rfl rfl (OpJ.extract rfl rfl rfl) ?_
    refine AList.c 3 rfl rfl rfl (OpJ.allocOwn rfl zr147 rfl) ?_
    refine AList.c0 rfl rfl (OpJ.store rfl rfl rfl rfl rfl ty147 rfl rfl) ?_
    refine AList.c 4 rfl rfl rfl (OpJ.assign rfl rfl) ?_
    refine AList.nil ?_
    refine AWp.seq ?_
    refine AWp.seq ?_
    refine AWp.region ?_
    refine AList.c 13 rfl rfl rfl (OpJ.move rfl rfl) ?_
    refine AList.c 14 rfl rfl rfl (OpJ.not_ rfl rfl) ?_
    refine AList.nil ?_
    refine AWp.cond _ rfl (fun hc1 => ?_) (fun hc1 => ?_)
    · skip
      cases hc1
    · skip
      refine AWp.skip ?_
      refine AWp.regionDrawG 3 0 [0] [([], false), ([3], false), ([0], true)] mixed (by kernel_rfl) (by decide) (by kernel_rfl) rfl rfl ?_
      refine AQG.cons 16 rfl rfl rfl (fun _ => (OpJ.fieldAddr rfl rfl fd147_0 rfl)) rfl ?_
      refine AQG.cons 17 rfl rfl rfl (fun _ => (OpJ.load rfl rfl ty36 rfl)) rfl ?_
      refine AQG.put 0 rfl rfl rfl rfl (fun _ => (OpJ.store rfl rfl rfl rfl rfl ty28 rfl rfl)) rfl rfl ?_
      refine AQG.nil ?_
      refine AList.c0 rfl rfl (OpJ.store rfl rfl rfl rfl rfl ty36 rfl rfl) ?_
      refine AList.nil ?_
      exact ⟨.inl rfl, hH _⟩
  · skip
    cases hc0
end Go.Proofs.YtbnemnhmejmeeaaGreatDoor.Bk
end

section
set_option linter.unusedVariables false
set_option maxRecDepth 100000
set_option maxHeartbeats 4000000
set_option linter.unusedSimpArgs false
namespace Go.Proofs.YtbnemnhmejmeeaaGreatDoor.Bk
open Go.AF
theorem openR_ok_big (s : Bs) (hbig : 65536 < s.length) : Pure Tryz.prog 27 [.str (sB s), (.func (.func 28) [] []), (.func (.func 24) [] [])] (.tuple [(opnP (lstG rptR 20) rptsB rptsV s).1, .int .i64 (opnP (lstG rptR 20) rptsB rptsV s).2]) := by
  refine Pure.start (N := 22) Tryz.func27 rfl rfl (Nat.le_of_ble_eq_true rfl) ?_
  refine AWp.seq ?_
  refine AWp.region ?_
  refine AList.c 6 rfl rfl rfl (OpJ.allocOwn rfl zr28 rfl) ?_
  refine AList.c 7 rfl rfl rfl (OpJ.allocOwn rfl zr36 rfl) ?_
  refine AList.nil ?_
  refine AWp.seq ?_
  refine AWp.seq ?_
  refine AWp.region ?_
  refine AList.c 8 rfl rfl rfl (OpJ.move rfl rfl) ?_
  refine AList.c 9 rfl rfl rfl (OpJ.lenStr rfl rfl un9) ?_
  refine AList.c 10 rfl rfl rfl (OpJ.gtr rfl rfl rfl) ?_
  refine AList.nil ?_
  refine AWp.cond _ rfl (fun hc0 => ?_) (fun hc0 => ?_)
  · skip
    refine AWp.seq ?_
    refine AWp.region ?_
    refine AList.c0 rfl rfl (OpJ.store rfl rfl rfl rfl rfl ty28 rfl rfl) ?_
    refine AList.c0 rfl rfl (OpJ.store rfl rfl rfl rfl rfl ty36 rfl rfl) ?_
    refine AList.nil ?_
    refine AWp.ret ?_
    refine Fin.manyE (xs := [.nilSlice, .int .i64 3]) rfl (⟨_, _, rfl, ⟨_, _, _, rfl, ty28, rfl⟩, ⟨_, _, rfl, ⟨_, _, _, rfl, ty36, rfl⟩, rfl⟩⟩) rfl ?_
    rw [opn_big hbig]
  · skip
    exfalso
    have h := of_decide_eq_false hc0
    rw [sB_size] at h
    omega
theorem openR_ok_small (s : Bs) (hs : s.length ≤ 65536) : Pure Tryz.prog 27 [.str (sB s), (.func (.func 28) [] []), (.func (.func 24) [] [])] (.tuple [(opnP (lstG rptR 20) rptsB rptsV s).1, .int .i64 (opnP (lstG rptR 20) rptsB rptsV s).2]) := by
  refine Pure.of_calls (ACalls.startD (N := 22) (g := 70) (dm := 11) (T1 := [(0, .p (.str (sB s))), (1, .p (.func (.func 28) [] [])), (2, .p (.func (.func 24) [] [])), (6, .ptr 0 0), (7, .ptr 1 0)]) (H1 := [.cells [.p .nilSlice] 28, .cells [.p (.int .i64 0)] 36]) (caps := [.ptr 0 0, .ptr 1 0]) Tryz.func27 rfl rfl (Nat.le_of_ble_eq_true rfl) ?_ (OpJ.makeFunc (fi := []) (ca := [.ptr 0 0, .ptr 1 0]) rfl rfl rfl) rfl rfl rfl rfl rfl rfl rf70 ?_)
  · skip
    refine AWp.region ?_
    refine AList.c 6 rfl rfl rfl (OpJ.allocOwn rfl zr28 rfl) ?_
    refine AList.c 7 rfl rfl rfl (OpJ.allocOwn rfl zr36 rfl) ?_
    refine AList.nil ?_
    refine AWp.seq ?_
    refine AWp.region ?_
    refine AList.c 8 rfl rfl rfl (OpJ.move rfl rfl) ?_
    refine AList.c 9 rfl rfl rfl (OpJ.lenStr rfl rfl un9) ?_
    refine AList.c 10 rfl rfl rfl (OpJ.gtr rfl rfl rfl) ?_
    refine AList.nil ?_
    refine AWp.cond _ rfl (fun hc0 => ?_) (fun hc0 => ?_)
    · skip
      exfalso
      have h := of_decide_eq_true hc0
      rw [sB_size] at h
      omega
    · skip
      refine AWp.skip ?_
      exact ⟨(by repeat (first | exact Sub.nil | refine Sub.cons rfl ?_)), rfl⟩
  · skip
    refine AWp.seq ?_
    refine AWp.seq ?_
    refine AWp.region ?_
    refine AList.c 12 rfl rfl rfl (OpJ.move rfl rfl) ?_
    refine AList.c 13 rfl rfl rfl (OpJ.move rfl rfl) ?_
    refine AList.c 14 rfl rfl rfl (OpJ.build rfl bd150 rfl rfl) ?_
    refine AList.c 15 rfl rfl rfl (OpJ.boxOwn rfl rfl rfl) ?_
    refine AList.callR 16 2 (readR_ok s hs) rfl rfl rfl rfl rfl rfl rfl rfl rf28 (fun hn => ⟨_, rfl, recR_some (fun rest => ⟨_, resV.many (vs := [.p .nilSlice, .p (.int .i64 8)]) rfl (⟨_, _, rfl, ⟨_, _, _, rfl, ty28, rfl⟩, ⟨_, _, rfl, ⟨_, _, _, rfl, ty36, rfl⟩, rfl⟩⟩), by rw [opn_no hs (Option.map_eq_none_iff.1 hn)]; rfl⟩)⟩) (fun q0 q1 hq => ?_)
    obtain ⟨l, hl, hq2⟩ := Option.map_eq_some_iff.1 hq
    cases hq2
    refine AList.c0 rfl rfl (OpJ.store rfl rfl rfl rfl rfl ty28 rfl rfl) ?_
    refine AList.nil ?_
    refine AWp.seq ?_
    refine AWp.region ?_
    refine AList.c 17 rfl rfl rfl (OpJ.move rfl rfl) ?_
    refine AList.c 18 rfl rfl rfl (OpJ.load (v := .p (rptsV l)) rfl rfl ty28 rfl) ?_
    refine AList.c 19 rfl rfl rfl (OpJ.callP (areReports_ok l (rpts_n hs hl).1 (rpts_n hs hl).2) rfl rfl rfl rfl rf24) ?_
    refine AList.c 20 rfl rfl rfl (OpJ.not_ rfl rfl) ?_
    refine AList.nil ?_
    refine AWp.cond _ rfl (fun hc1 => ?_) (fun hc1 => ?_)
    · skip
      have hbad : rptsB l = false := by simpa using hc1
      refine AWp.seq ?_
      refine AWp.region ?_
      refine AList.c0 rfl rfl (OpJ.store rfl rfl rfl rfl rfl ty28 rfl rfl) ?_
      refine AList.c0 rfl rfl (OpJ.store rfl rfl rfl rfl rfl ty36 rfl rfl) ?_
      refine AList.nil ?_
      refine AWp.ret ?_
      exact recR_none ⟨_, resV.many (vs := [.p .nilSlice, .p (.int .i64 8)]) rfl (⟨_, _, rfl, ⟨_, _, _, rfl, ty28, rfl⟩, ⟨_, _, rfl, ⟨_, _, _, rfl, ty36, rfl⟩, rfl⟩⟩), by rw [opn_bad hs hl hbad]; rfl⟩
    · skip
      have hok : rptsB l = true := by simpa using hc1
      refine AWp.skip ?_
      refine AWp.seq ?_
      refine AWp.region ?_
      refine AList.c 21 rfl rfl rfl (OpJ.load rfl rfl ty28 rfl) ?_
      refine AList.c0 rfl rfl (OpJ.store rfl rfl rfl rfl rfl ty28 rfl rfl) ?_
      refine AList.c0 rfl rfl (OpJ.store rfl rfl rfl rfl rfl ty36 rfl rfl) ?_
      refine AList.nil ?_
      refine AWp.ret ?_
      exact recR_none ⟨_, resV.many (vs := [.p (rptsV l), .p (.int .i64 0)]) rfl (⟨_, _, rfl, ⟨_, _, _, rfl, ty28, rfl⟩, ⟨_, _, rfl, ⟨_, _, _, rfl, ty36, rfl⟩, rfl⟩⟩), by rw [opn_ok hs hl hok]; rfl⟩
theorem openR_ok (s : Bs) : Pure Tryz.prog 27 [.str (sB s), (.func (.func 28) [] []), (.func (.func 24) [] [])] (.tuple [(opnP (lstG rptR 20) rptsB rptsV s).1, .int .i64 (opnP (lstG rptR 20) rptsB rptsV s).2]) := by
  rcases Nat.lt_or_ge 65536 s.length with h | h
  · exact openR_ok_big s h
  · exact openR_ok_small s h

end Go.Proofs.YtbnemnhmejmeeaaGreatDoor.Bk
end

section
set_option linter.unusedVariables false
set_option maxRecDepth 100000
set_option maxHeartbeats 4000000
set_option linter.unusedSimpArgs false
namespace Go.Proofs.YtbnemnhmejmeeaaGreatDoor.Bk
open Go.AF
theorem readReports_ok (s : Bs) : Pure Tryz.prog 8 [.str (sB s)] (.tuple [(opR s).1, .int .i64 (opR s).2]) := by
  refine Pure.start (N := 8) Tryz.func8 rfl rfl (Nat.le_of_ble_eq_true rfl) ?_
  refine AWp.seq ?_
  refine AWp.region ?_
  refine AList.c 2 rfl rfl rfl (OpJ.assign rfl rfl) ?_
  refine AList.c 3 rfl rfl rfl (OpJ.assign rfl rfl) ?_
  refine AList.nil ?_
  refine AWp.seq ?_
  refine AWp.region ?_
  refine AList.c 4 rfl rfl rfl (OpJ.move rfl rfl) ?_
  refine AList.c 5 rfl rfl rfl (OpJ.callP (openR_ok s) rfl rfl rfl rfl rf27) ?_
  refine AList.c 6 rfl rfl rfl (OpJ.extract rfl rfl rfl) ?_
  refine AList.c 7 rfl rfl rfl (OpJ.extract rfl rfl rfl) ?_
  refine AList.c 2 rfl rfl rfl (OpJ.assign rfl rfl) ?_
  refine AList.c 3 rfl rfl rfl (OpJ.assign rfl rfl) ?_
  refine AList.nil ?_
  refine AWp.ret ?_
  exact Fin.many (xs := [(opR s).1, .int .i64 (opR s).2]) rfl ⟨_, _, rfl, rfl, ⟨_, _, rfl, rfl, rfl⟩⟩ rfl
end Go.Proofs.YtbnemnhmejmeeaaGreatDoor.Bk
end

section
set_option linter.unusedVariables false
set_option maxRecDepth 100000
set_option maxHeartbeats 4000000
set_option linter.unusedSimpArgs false
namespace Go.Proofs.YtbnemnhmejmeeaaGreatDoor.Bk
open Go.AF
theorem ints_ok (a b : List Int) (hla : a.length ≤ bigN) (hlb : b.length ≤ bigN) : Pure Tryz.prog 19 [intsV a, intsV b] (.bool (decide (a = b))) := by
  have hla2 := hla
  have hlb2 := hlb
  unfold bigN at hla2 hlb2
  refine Pure.start (N := 26) Tryz.func19 rfl rfl (Nat.le_of_ble_eq_true rfl) ?_
  refine AWp.seq ?_
  refine AWp.region ?_
  refine AList.c 4 rfl rfl rfl (OpJ.assign rfl rfl) ?_
  refine AList.nil ?_
  refine AWp.seq ?_
  refine AWp.seq ?_
  refine AWp.region ?_
  refine AList.c 6 rfl rfl rfl (OpJ.move rfl rfl) ?_
  refine AList.c 7 rfl rfl rfl (OpJ.lenSlice rfl rfl sl45 rfl) ?_
  refine AList.c 8 rfl rfl rfl (OpJ.move rfl rfl) ?_
  refine AList.c 9 rfl rfl rfl (OpJ.lenSlice rfl rfl sl45 rfl) ?_
  refine AList.c 10 rfl rfl rfl (OpJ.neq rfl rfl rfl) ?_
  refine AList.nil ?_
  refine AWp.cond _ rfl (fun hc0 => ?_) (fun hc0 => ?_)
  · skip
    have hl : a.length ≠ b.length := by simp at hc0; omega
    refine AWp.seq ?_
    refine AWp.region ?_
    refine AList.c 4 rfl rfl rfl (OpJ.assign rfl rfl) ?_
    refine AList.nil ?_
    refine AWp.ret ?_
    refine Fin.oneE rfl rfl ?_
    rw [decide_eq_false (fun h => hl (by rw [h]))]
  · skip
    have hl : a.length = b.length := by simp at hc0; omega
    refine AWp.skip ?_
    refine AWp.seq ?_
    refine AWp.seq ?_
    refine AWp.region ?_
    refine AList.c 5 rfl rfl rfl (OpJ.assign rfl rfl) ?_
    refine AList.nil ?_
    refine AWp.block ?_
    refine AWp.loopHL [0, 1] (fun g => [(5, .p (.int .i64 ((g : Nat) : Int)))]) (fun g => []) (fun g => g ≤ a.length ∧ a.take g = b.take g) (fun g => a.length - g) 0 ⟨Nat.zero_le _, rfl⟩ (To.sub (Sub.chk (Sub.cons rfl (Sub.nil)))) (fun i ⟨hi, hI⟩ => ?_)
    refine AWp.seq ?_
    refine AWp.seq ?_
    refine AWp.region ?_
    refine AList.c 11 rfl rfl rfl (OpJ.move rfl rfl) ?_
    refine AList.c 12 rfl rfl rfl (OpJ.move rfl rfl) ?_
    refine AList.c 13 rfl rfl rfl (OpJ.lenSlice rfl rfl sl45 rfl) ?_
    refine AList.c 14 rfl rfl rfl (OpJ.lss rfl rfl rfl) ?_
    refine AList.nil ?_
    refine AWp.cond _ rfl (fun hc1 => ?_) (fun hc1 => ?_)
    · skip
      have hk0 : i < a.length := by have h := of_decide_eq_true hc1; omega
      refine AWp.skip ?_
      refine AWp.seq ?_
      refine AWp.block ?_
      refine AWp.seq ?_
      refine AWp.regionDraw 9 mixed (by kernel_rfl) (by decide) ?_
      refine AQuiet.cons 17 rfl rfl rfl (OpJ.move rfl rfl) ?_
      refine AQuiet.cons 18 rfl rfl rfl (OpJ.move rfl rfl) ?_
      refine AQuiet.cons 19 rfl rfl rfl (OpJ.indexG (g := gt 0 a) (gt_get _) rfl rfl rfl sl45 el45 rfl (fun _ => rfl) (by decide) hk0) ?_
      refine AQuiet.cons 20 rfl rfl rfl (OpJ.load (v := .p (.int .i64 (gt 0 a i))) rfl rfl ty3 rfl) ?_
      refine AQuiet.cons 21 rfl rfl rfl (OpJ.move rfl rfl) ?_
      refine AQuiet.cons 22 rfl rfl rfl (OpJ.move rfl rfl) ?_
      refine AQuiet.cons 23 rfl rfl rfl (OpJ.indexG (g := gt 0 b) (gt_get _) rfl rfl rfl sl45 el45 rfl (fun _ => rfl) (by decide) (by omega)) ?_
      refine AQuiet.cons 24 rfl rfl rfl (OpJ.load (v := .p (.int .i64 (gt 0 b i))) rfl rfl ty3 rfl) ?_
      refine AQuiet.cons 25 rfl rfl rfl (OpJ.neq rfl rfl rfl) ?_
      refine AQuiet.nil ?_
      refine AList.nil ?_
      refine AWp.cond _ rfl (fun hc2 => ?_) (fun hc2 => ?_)
      · skip
        have he : gt 0 a i ≠ gt 0 b i := by simpa using hc2
        refine AWp.seq ?_
        refine AWp.region ?_
        refine AList.c 4 rfl rfl rfl (OpJ.assign rfl rfl) ?_
        refine AList.nil ?_
        refine AWp.ret ?_
        refine Fin.oneE rfl rfl ?_
        rw [decide_eq_false (same_no 0 he)]
      · skip
        have he : gt 0 a i = gt 0 b i := by simpa using hc2
        refine AWp.skip ?_
        refine AWp.region ?_
        refine AList.c 15 rfl rfl rfl (OpJ.move rfl rfl) ?_
        refine AList.c 16 rfl rfl rfl (OpJ.add rfl rfl rfl (i64ok ?_)) ?_
        · omega
        refine AList.c 5 rfl rfl rfl (OpJ.assign rfl rfl) ?_
        refine AList.nil ?_
        refine ⟨i + 1, ?_, ?_, ?_⟩
        · exact ⟨hk0, same_step 0 hk0 (by omega) hI he⟩
        · omega
        exact To.done [] rfl (by repeat (first | exact Sub.nil | refine Sub.cons rfl ?_)) rfl
    · skip
      have hi2 : i = a.length := by have h := of_decide_eq_false hc1; omega
      subst hi2
      refine AWp.exit ?_
      refine AWp.seq ?_
      refine AWp.region ?_
      refine AList.c 4 rfl rfl rfl (OpJ.assign rfl rfl) ?_
      refine AList.nil ?_
      refine AWp.ret ?_
      refine Fin.oneE rfl rfl ?_
      rw [decide_eq_true (same_end hl hI)]
end Go.Proofs.YtbnemnhmejmeeaaGreatDoor.Bk
end

section
set_option linter.unusedVariables false
set_option maxRecDepth 100000
set_option maxHeartbeats 4000000
set_option linter.unusedSimpArgs false
namespace Go.Proofs.YtbnemnhmejmeeaaGreatDoor.Bk
open Go.AF
theorem sameR_ok (a b : List Rpt) (hla : a.length ≤ bigN) (hlb : b.length ≤ bigN) (hca : ∀ r ∈ a, r.strokes.length ≤ bigN) (hcb : ∀ r ∈ b, r.strokes.length ≤ bigN) : Pure Tryz.prog 10 [rptsV a, rptsV b] (.bool (decide (a = b))) := by
  have hla2 := hla
  have hlb2 := hlb
  unfold bigN at hla2 hlb2
  refine Pure.start (N := 97) Tryz.func10 rfl rfl (Nat.le_of_ble_eq_true rfl) ?_
  refine AWp.seq ?_
  refine AWp.region ?_
  refine AList.c 4 rfl rfl rfl (OpJ.assign rfl rfl) ?_
  refine AList.nil ?_
  refine AWp.seq ?_
  refine AWp.seq ?_
  refine AWp.region ?_
  refine AList.c 7 rfl rfl rfl (OpJ.move rfl rfl) ?_
  refine AList.c 8 rfl rfl rfl (OpJ.lenSlice rfl rfl sl28 rfl) ?_
  refine AList.c 9 rfl rfl rfl (OpJ.move rfl rfl) ?_
  refine AList.c 10 rfl rfl rfl (OpJ.lenSlice rfl rfl sl28 rfl) ?_
  refine AList.c 11 rfl rfl rfl (OpJ.neq rfl rfl rfl) ?_
  refine AList.nil ?_
  refine AWp.cond _ rfl (fun hc0 => ?_) (fun hc0 => ?_)
  · skip
    have hl : a.length ≠ b.length := by simp at hc0; omega
    refine AWp.seq ?_
    refine AWp.region ?_
    refine AList.c 4 rfl rfl rfl (OpJ.assign rfl rfl) ?_
    refine AList.nil ?_
    refine AWp.ret ?_
    refine Fin.oneE rfl rfl ?_
    rw [decide_eq_false (fun h => hl (by rw [h]))]
  · skip
    have hl : a.length = b.length := by simp at hc0; omega
    refine AWp.skip ?_
    refine AWp.seq ?_
    refine AWp.seq ?_
    refine AWp.region ?_
    refine AList.c 5 rfl rfl rfl (OpJ.assign rfl rfl) ?_
    refine AList.nil ?_
    refine AWp.block ?_
    refine AWp.loopHL [0, 1] (fun g => [(5, .p (.int .i64 ((g : Nat) : Int)))]) (fun g => []) (fun g => g ≤ a.length ∧ a.take g = b.take g) (fun g => a.length - g) 0 ⟨Nat.zero_le _, rfl⟩ (To.sub (Sub.chk (Sub.cons rfl (Sub.nil)))) (fun i ⟨hi, hI⟩ => ?_)
    refine AWp.seq ?_
    refine AWp.seq ?_
    refine AWp.region ?_
    refine AList.c 12 rfl rfl rfl (OpJ.move rfl rfl) ?_
    refine AList.c 13 rfl rfl rfl (OpJ.move rfl rfl) ?_
    refine AList.c 14 rfl rfl rfl (OpJ.lenSlice rfl rfl sl28 rfl) ?_
    refine AList.c 15 rfl rfl rfl (OpJ.lss rfl rfl rfl) ?_
    refine AList.nil ?_
    refine AWp.cond _ rfl (fun hc1 => ?_) (fun hc1 => ?_)
    · skip
      have hk0 : i < a.length := by have h := of_decide_eq_true hc1; omega
      have hkb : i < b.length := by omega
      have hsa := hca _ (gt_mem Rpt.d hk0)
      unfold bigN at hsa
      refine AWp.skip ?_
      refine AWp.seq ?_
      refine AWp.block ?_
      refine AWp.seq ?_
      refine AWp.seq ?_
      refine AWp.regionDraw 52 mixed (by kernel_rfl) (by decide) ?_
      refine AQuiet.cons 18 rfl rfl rfl (OpJ.move rfl rfl) ?_
      refine AQuiet.cons 19 rfl rfl rfl (OpJ.move rfl rfl) ?_
      refine AQuiet.cons 20 rfl rfl rfl (OpJ.indexG (g := gt Rpt.d a) (gt_get _) rfl rfl rfl sl28 el28 rfl (fun _ => rfl) (by decide) hk0) ?_
      refine AQuiet.cons 21 rfl rfl rfl (OpJ.fieldAddr rfl rfl fd35_0 rfl) ?_
      refine AQuiet.cons 22 rfl rfl rfl (OpJ.load (v := .p (.int .i64 (gt Rpt.d a i).batch)) rfl rfl ty3 rfl) ?_
      refine AQuiet.cons 23 rfl rfl rfl (OpJ.move rfl rfl) ?_
      refine AQuiet.cons 24 rfl rfl rfl (OpJ.move rfl rfl) ?_
      refine AQuiet.cons 25 rfl rfl rfl (OpJ.indexG (g := gt Rpt.d b) (gt_get _) rfl rfl rfl sl28 el28 rfl (fun _ => rfl) (by decide) hkb) ?_
      refine AQuiet.cons 26 rfl rfl rfl (OpJ.fieldAddr rfl rfl fd35_0 rfl) ?_
      refine AQuiet.cons 27 rfl rfl rfl (OpJ.load (v := .p (.int .i64 (gt Rpt.d b i).batch)) rfl rfl ty3 rfl) ?_
      refine AQuiet.cons 28 rfl rfl rfl (OpJ.neq rfl rfl rfl) ?_
      refine AQuiet.cons 29 rfl rfl rfl (OpJ.move rfl rfl) ?_
      refine AQuiet.guard 30 29 rfl rfl rfl rfl rfl rfl rfl [(0, _)] (fun h => And.intro (.inl rfl) (trivial)) (fun h => (OpJ.move rfl rfl)) ?_
      refine AQuiet.guard 31 29 rfl rfl rfl rfl rfl rfl rfl [(5, _)] (fun h => And.intro (.inl rfl) (trivial)) (fun h => (OpJ.move rfl rfl)) ?_
      refine AQuiet.guard 32 29 rfl rfl rfl rfl rfl rfl rfl [(30, _), (31, _)] (fun h => And.intro (.inr ⟨_, rfl, h⟩) (And.intro (.inr ⟨_, rfl, h⟩) (trivial))) (fun h => (OpJ.indexG (g := gt Rpt.d a) (gt_get _) rfl rfl rfl sl28 el28 rfl (fun _ => rfl) (by decide) hk0)) ?_
      refine AQuiet.guard 33 29 rfl rfl rfl rfl rfl rfl rfl [(32, _)] (fun h => And.intro (.inr ⟨_, rfl, h⟩) (trivial)) (fun h => (OpJ.fieldAddr rfl rfl fd35_2 rfl)) ?_
      refine AQuiet.guard 34 29 rfl rfl rfl rfl rfl rfl rfl [(33, _)] (fun h => And.intro (.inr ⟨_, rfl, h⟩) (trivial)) (fun h => (OpJ.load (v := .p (.agg (gt Rpt.d a i).strength.cells)) rfl rfl ty30 rfl)) ?_
      refine AQuiet.guard 35 29 rfl rfl rfl rfl rfl rfl rfl [(1, _)] (fun h => And.intro (.inl rfl) (trivial)) (fun h => (OpJ.move rfl rfl)) ?_
      refine AQuiet.guard 36 29 rfl rfl rfl rfl rfl rfl rfl [(5, _)] (fun h => And.intro (.inl rfl) (trivial)) (fun h => (OpJ.move rfl rfl)) ?_
      refine AQuiet.guard 37 29 rfl rfl rfl rfl rfl rfl rfl [(35, _), (36, _)] (fun h => And.intro (.inr ⟨_, rfl, h⟩) (And.intro (.inr ⟨_, rfl, h⟩) (trivial))) (fun h => (OpJ.indexG (g := gt Rpt.d b) (gt_get _) rfl rfl rfl sl28 el28 rfl (fun _ => rfl) (by decide) hkb)) ?_
      refine AQuiet.guard 38 29 rfl rfl rfl rfl rfl rfl rfl [(37, _)] (fun h => And.intro (.inr ⟨_, rfl, h⟩) (trivial)) (fun h => (OpJ.fieldAddr rfl rfl fd35_2 rfl)) ?_
      refine AQuiet.guard 39 29 rfl rfl rfl rfl rfl rfl rfl [(38, _)] (fun h => And.intro (.inr ⟨_, rfl, h⟩) (trivial)) (fun h => (OpJ.load (v := .p (.agg (gt Rpt.d b i).strength.cells)) rfl rfl ty30 rfl)) ?_
      refine AQuiet.guard 40 29 rfl rfl rfl rfl rfl rfl rfl [(34, _), (39, _)] (fun h => And.intro (.inr ⟨_, rfl, h⟩) (And.intro (.inr ⟨_, rfl, h⟩) (trivial))) (fun h => (OpJ.eqAgg (d := 8) rfl (.inr rfl) rfl rfl (by decide) eq30 ty30 rfl eg30 rfl)) ?_
      refine AQuiet.cons 41 rfl rfl rfl (OpJ.or_ rfl rfl rfl ?_) ?_
      · first | (intro h; rw [h]; rfl) | (intro h; simp_all)
      refine AQuiet.cons 42 rfl rfl rfl (OpJ.move rfl rfl) ?_
      refine AQuiet.guard 43 42 rfl rfl rfl rfl rfl rfl rfl [(0, _)] (fun h => And.intro (.inl rfl) (trivial)) (fun h => (OpJ.move rfl rfl)) ?_
      refine AQuiet.guard 44 42 rfl rfl rfl rfl rfl rfl rfl [(5, _)] (fun h => And.intro (.inl rfl) (trivial)) (fun h => (OpJ.move rfl rfl)) ?_
      refine AQuiet.guard 45 42 rfl rfl rfl rfl rfl rfl rfl [(43, _), (44, _)] (fun h => And.intro (.inr ⟨_, rfl, h⟩) (And.intro (.inr ⟨_, rfl, h⟩) (trivial))) (fun h => (OpJ.indexG (g := gt Rpt.d a) (gt_get _) rfl rfl rfl sl28 el28 rfl (fun _ => rfl) (by decide) hk0)) ?_
      refine AQuiet.guard 46 42 rfl rfl rfl rfl rfl rfl rfl [(45, _)] (fun h => And.intro (.inr ⟨_, rfl, h⟩) (trivial)) (fun h => (OpJ.fieldAddr rfl rfl fd35_3 rfl)) ?_
      refine AQuiet.guard 47 42 rfl rfl rfl rfl rfl rfl rfl [(46, _)] (fun h => And.intro (.inr ⟨_, rfl, h⟩) (trivial)) (fun h => (OpJ.load (v := .p (.agg (gt Rpt.d a i).wear.cells)) rfl rfl ty30 rfl)) ?_
      refine AQuiet.guard 48 42 rfl rfl rfl rfl rfl rfl rfl [(1, _)] (fun h => And.intro (.inl rfl) (trivial)) (fun h => (OpJ.move rfl rfl)) ?_
      refine AQuiet.guard 49 42 rfl rfl rfl rfl rfl rfl rfl [(5, _)] (fun h => And.intro (.inl rfl) (trivial)) (fun h => (OpJ.move rfl rfl)) ?_
      refine AQuiet.guard 50 42 rfl rfl rfl rfl rfl rfl rfl [(48, _), (49, _)] (fun h => And.intro (.inr ⟨_, rfl, h⟩) (And.intro (.inr ⟨_, rfl, h⟩) (trivial))) (fun h => (OpJ.indexG (g := gt Rpt.d b) (gt_get _) rfl rfl rfl sl28 el28 rfl (fun _ => rfl) (by decide) hkb)) ?_
      refine AQuiet.guard 51 42 rfl rfl rfl rfl rfl rfl rfl [(50, _)] (fun h => And.intro (.inr ⟨_, rfl, h⟩) (trivial)) (fun h => (OpJ.fieldAddr rfl rfl fd35_3 rfl)) ?_
      refine AQuiet.guard 52 42 rfl rfl rfl rfl rfl rfl rfl [(51, _)] (fun h => And.intro (.inr ⟨_, rfl, h⟩) (trivial)) (fun h => (OpJ.load (v := .p (.agg (gt Rpt.d b i).wear.cells)) rfl rfl ty30 rfl)) ?_
      refine AQuiet.guard 53 42 rfl rfl rfl rfl rfl rfl rfl [(47, _), (52, _)] (fun h => And.intro (.inr ⟨_, rfl, h⟩) (And.intro (.inr ⟨_, rfl, h⟩) (trivial))) (fun h => (OpJ.eqAgg (d := 8) rfl (.inr rfl) rfl rfl (by decide) eq30 ty30 rfl eg30 rfl)) ?_
      refine AQuiet.cons 54 rfl rfl rfl (OpJ.or_ rfl rfl rfl ?_) ?_
      · first | (intro h; rw [h]; rfl) | (intro h; simp_all)
      refine AQuiet.cons 55 rfl rfl rfl (OpJ.move rfl rfl) ?_
      refine AQuiet.guard 56 55 rfl rfl rfl rfl rfl rfl rfl [(0, _)] (fun h => And.intro (.inl rfl) (trivial)) (fun h => (OpJ.move rfl rfl)) ?_
      refine AQuiet.guard 57 55 rfl rfl rfl rfl rfl rfl rfl [(5, _)] (fun h => And.intro (.inl rfl) (trivial)) (fun h => (OpJ.move rfl rfl)) ?_
      refine AQuiet.guard 58 55 rfl rfl rfl rfl rfl rfl rfl [(56, _), (57, _)] (fun h => And.intro (.inr ⟨_, rfl, h⟩) (And.intro (.inr ⟨_, rfl, h⟩) (trivial))) (fun h => (OpJ.indexG (g := gt Rpt.d a) (gt_get _) rfl rfl rfl sl28 el28 rfl (fun _ => rfl) (by decide) hk0)) ?_
      refine AQuiet.guard 59 55 rfl rfl rfl rfl rfl rfl rfl [(58, _)] (fun h => And.intro (.inr ⟨_, rfl, h⟩) (trivial)) (fun h => (OpJ.fieldAddr rfl rfl fd35_1 rfl)) ?_
      refine AQuiet.guard 60 55 rfl rfl rfl rfl rfl rfl rfl [(59, _)] (fun h => And.intro (.inr ⟨_, rfl, h⟩) (trivial)) (fun h => (OpJ.load (v := .p (stksV (gt Rpt.d a i).strokes)) rfl rfl ty31 rfl)) ?_
      refine AQuiet.guard 61 55 rfl rfl rfl rfl rfl rfl rfl [(60, _)] (fun h => And.intro (.inr ⟨_, rfl, h⟩) (trivial)) (fun h => (OpJ.lenSlice rfl rfl sl31 rfl)) ?_
      refine AQuiet.guard 62 55 rfl rfl rfl rfl rfl rfl rfl [(1, _)] (fun h => And.intro (.inl rfl) (trivial)) (fun h => (OpJ.move rfl rfl)) ?_
      refine AQuiet.guard 63 55 rfl rfl rfl rfl rfl rfl rfl [(5, _)] (fun h => And.intro (.inl rfl) (trivial)) (fun h => (OpJ.move rfl rfl)) ?_
      refine AQuiet.guard 64 55 rfl rfl rfl rfl rfl rfl rfl [(62, _), (63, _)] (fun h => And.intro (.inr ⟨_, rfl, h⟩) (And.intro (.inr ⟨_, rfl, h⟩) (trivial))) (fun h => (OpJ.indexG (g := gt Rpt.d b) (gt_get _) rfl rfl rfl sl28 el28 rfl (fun _ => rfl) (by decide) hkb)) ?_
      refine AQuiet.guard 65 55 rfl rfl rfl rfl rfl rfl rfl [(64, _)] (fun h => And.intro (.inr ⟨_, rfl, h⟩) (trivial)) (fun h => (OpJ.fieldAddr rfl rfl fd35_1 rfl)) ?_
      refine AQuiet.guard 66 55 rfl rfl rfl rfl rfl rfl rfl [(65, _)] (fun h => And.intro (.inr ⟨_, rfl, h⟩) (trivial)) (fun h => (OpJ.load (v := .p (stksV (gt Rpt.d b i).strokes)) rfl rfl ty31 rfl)) ?_
      refine AQuiet.guard 67 55 rfl rfl rfl rfl rfl rfl rfl [(66, _)] (fun h => And.intro (.inr ⟨_, rfl, h⟩) (trivial)) (fun h => (OpJ.lenSlice rfl rfl sl31 rfl)) ?_
      refine AQuiet.guard 68 55 rfl rfl rfl rfl rfl rfl rfl [(61, _), (67, _)] (fun h => And.intro (.inr ⟨_, rfl, h⟩) (And.intro (.inr ⟨_, rfl, h⟩) (trivial))) (fun h => (OpJ.neq rfl rfl rfl)) ?_
      refine AQuiet.cons 69 rfl rfl rfl (OpJ.or_ rfl rfl rfl ?_) ?_
      · first | (intro h; rw [h]; rfl) | (intro h; simp_all)
      refine AQuiet.nil ?_
      refine AList.nil ?_
      refine AWp.cond _ rfl (fun hc2 => ?_) (fun hc2 => ?_)
      · skip
        have he : (gt Rpt.d a i) ≠ (gt Rpt.d b i) := rpt_ne hc2
        refine AWp.seq ?_
        refine AWp.region ?_
        refine AList.c 4 rfl rfl rfl (OpJ.assign rfl rfl) ?_
        refine AList.nil ?_
        refine AWp.ret ?_
        refine Fin.oneE rfl rfl ?_
        rw [decide_eq_false (same_no Rpt.d he)]
      · skip
        obtain ⟨e1, e2, e3, e4⟩ := rpt_eq hc2
        refine AWp.skip ?_
        refine AWp.seq ?_
        refine AWp.region ?_
        refine AList.c 6 rfl rfl rfl (OpJ.assign rfl rfl) ?_
        refine AList.nil ?_
        refine AWp.block ?_
        refine AWp.loopHL [0, 1, 5, 12, 13, 14, 15, 16, 17, 18, 19, 20, 21, 22, 23, 24, 25, 26, 27, 28, 29, 30, 31, 32, 33, 34, 35, 36, 37, 38, 39, 40, 41, 42, 43, 44, 45, 46, 47, 48, 49, 50, 51, 52, 53, 54, 55, 56, 57, 58, 59, 60, 61, 62, 63, 64, 65, 66, 67, 68, 69] (fun g => [(6, .p (.int .i64 ((g : Nat) : Int)))]) (fun g => []) (fun g => g ≤ (gt Rpt.d a i).strokes.length ∧ (gt Rpt.d a i).strokes.take g = (gt Rpt.d b i).strokes.take g) (fun g => (gt Rpt.d a i).strokes.length - g) 0 ⟨Nat.zero_le _, rfl⟩ (To.sub (Sub.chk (Sub.cons rfl (Sub.nil)))) (fun k ⟨hk, hK⟩ => ?_)
        refine AWp.seq ?_
        refine AWp.seq ?_
        refine AWp.region ?_
        refine AList.c 70 rfl rfl rfl (OpJ.move rfl rfl) ?_
        refine AList.c 71 rfl rfl rfl (OpJ.move rfl rfl) ?_
        refine AList.c 72 rfl rfl rfl (OpJ.move rfl rfl) ?_
        refine AList.c 73 rfl rfl rfl (OpJ.indexG (g := gt Rpt.d a) (gt_get _) rfl rfl rfl sl28 el28 rfl (fun _ => rfl) (by decide) hk0) ?_
        refine AList.c 74 rfl rfl rfl (OpJ.fieldAddr rfl rfl fd35_1 rfl) ?_
        refine AList.c 75 rfl rfl rfl (OpJ.load (v := .p (stksV (gt Rpt.d a i).strokes)) rfl rfl ty31 rfl) ?_
        refine AList.c 76 rfl rfl rfl (OpJ.lenSlice rfl rfl sl31 rfl) ?_
        refine AList.c 77 rfl rfl rfl (OpJ.lss rfl rfl rfl) ?_
        refine AList.nil ?_
        refine AWp.cond _ rfl (fun hc3 => ?_) (fun hc3 => ?_)
        · skip
          have hk2 : k < (gt Rpt.d a i).strokes.length := by have h := of_decide_eq_true hc3; omega
          refine AWp.skip ?_
          refine AWp.seq ?_
          refine AWp.block ?_
          refine AWp.seq ?_
          refine AWp.regionDraw 17 mixed (by kernel_rfl) (by decide) ?_
          refine AQuiet.cons 80 rfl rfl rfl (OpJ.move rfl rfl) ?_
          refine AQuiet.cons 81 rfl rfl rfl (OpJ.move rfl rfl) ?_
          refine AQuiet.cons 82 rfl rfl rfl (OpJ.indexG (g := gt Rpt.d a) (gt_get _) rfl rfl rfl sl28 el28 rfl (fun _ => rfl) (by decide) hk0) ?_
          refine AQuiet.cons 83 rfl rfl rfl (OpJ.fieldAddr rfl rfl fd35_1 rfl) ?_
          refine AQuiet.cons 84 rfl rfl rfl (OpJ.load (v := .p (stksV (gt Rpt.d a i).strokes)) rfl rfl ty31 rfl) ?_
          refine AQuiet.cons 85 rfl rfl rfl (OpJ.move rfl rfl) ?_
          refine AQuiet.cons 86 rfl rfl rfl (OpJ.indexG (g := gt Stk.d (gt Rpt.d a i).strokes) (gt_get _) rfl rfl rfl sl31 el31 rfl (fun _ => rfl) (by decide) hk2) ?_
          refine AQuiet.cons 87 rfl rfl rfl (OpJ.load (v := .p (.agg (gt Stk.d (gt Rpt.d a i).strokes k).cells)) rfl rfl ty82 rfl) ?_
          refine AQuiet.cons 88 rfl rfl rfl (OpJ.move rfl rfl) ?_
          refine AQuiet.cons 89 rfl rfl rfl (OpJ.move rfl rfl) ?_
          refine AQuiet.cons 90 rfl rfl rfl (OpJ.indexG (g := gt Rpt.d b) (gt_get _) rfl rfl rfl sl28 el28 rfl (fun _ => rfl) (by decide) hkb) ?_
          refine AQuiet.cons 91 rfl rfl rfl (OpJ.fieldAddr rfl rfl fd35_1 rfl) ?_
          refine AQuiet.cons 92 rfl rfl rfl (OpJ.load (v := .p (stksV (gt Rpt.d b i).strokes)) rfl rfl ty31 rfl) ?_
          refine AQuiet.cons 93 rfl rfl rfl (OpJ.move rfl rfl) ?_
          refine AQuiet.cons 94 rfl rfl rfl (OpJ.indexG (g := gt Stk.d (gt Rpt.d b i).strokes) (gt_get _) rfl rfl rfl sl31 el31 rfl (fun _ => rfl) (by decide) (by omega)) ?_
          refine AQuiet.cons 95 rfl rfl rfl (OpJ.load (v := .p (.agg (gt Stk.d (gt Rpt.d b i).strokes k).cells)) rfl rfl ty82 rfl) ?_
          refine AQuiet.cons 96 rfl rfl rfl (OpJ.eqAgg (d := 8) rfl (.inr rfl) rfl rfl (by decide) eq82 ty82 rfl eg82 rfl) ?_
          refine AQuiet.nil ?_
          refine AList.nil ?_
          refine AWp.cond _ rfl (fun hc4 => ?_) (fun hc4 => ?_)
          · skip
            have he2 := stk_ne hc4
            have he : (gt Rpt.d a i) ≠ (gt Rpt.d b i) := fun e => he2 (by rw [e])
            refine AWp.seq ?_
            refine AWp.region ?_
            refine AList.c 4 rfl rfl rfl (OpJ.assign rfl rfl) ?_
            refine AList.nil ?_
            refine AWp.ret ?_
            refine Fin.oneE rfl rfl ?_
            rw [decide_eq_false (same_no Rpt.d he)]
          · skip
            have he2 := stk_eq hc4
            refine AWp.skip ?_
            refine AWp.region ?_
            refine AList.c 78 rfl rfl rfl (OpJ.move rfl rfl) ?_
            refine AList.c 79 rfl rfl rfl (OpJ.add rfl rfl rfl (i64ok ?_)) ?_
            · omega
            refine AList.c 6 rfl rfl rfl (OpJ.assign rfl rfl) ?_
            refine AList.nil ?_
            refine ⟨k + 1, ?_, ?_, ?_⟩
            · exact ⟨hk2, same_step Stk.d hk2 (by omega) hK he2⟩
            · omega
            exact To.done [] rfl (by repeat (first | exact Sub.nil | refine Sub.cons rfl ?_)) rfl
        · skip
          have hk3 : k = (gt Rpt.d a i).strokes.length := by have h := of_decide_eq_false hc3; omega
          subst hk3
          have he : (gt Rpt.d a i) = (gt Rpt.d b i) := Rpt.ext4 e1 (same_end e4 hK) e2 e3
          refine AWp.exit ?_
          refine AWp.region ?_
          refine AList.c 16 rfl rfl rfl (OpJ.move rfl rfl) ?_
          refine AList.c 17 rfl rfl rfl (OpJ.add rfl rfl rfl (i64ok ?_)) ?_
          · omega
          refine AList.c 5 rfl rfl rfl (OpJ.assign rfl rfl) ?_
          refine AList.nil ?_
          refine ⟨i + 1, ?_, ?_, ?_⟩
          · exact ⟨hk0, same_step Rpt.d hk0 hkb hI he⟩
          · omega
          exact To.done [] rfl (by repeat (first | exact Sub.nil | refine Sub.cons rfl ?_)) rfl
    · skip
      have hi2 : i = a.length := by have h := of_decide_eq_false hc1; omega
      subst hi2
      refine AWp.exit ?_
      refine AWp.seq ?_
      refine AWp.region ?_
      refine AList.c 4 rfl rfl rfl (OpJ.assign rfl rfl) ?_
      refine AList.nil ?_
      refine AWp.ret ?_
      refine Fin.oneE rfl rfl ?_
      rw [decide_eq_true (same_end hl hI)]
end Go.Proofs.YtbnemnhmejmeeaaGreatDoor.Bk
end
