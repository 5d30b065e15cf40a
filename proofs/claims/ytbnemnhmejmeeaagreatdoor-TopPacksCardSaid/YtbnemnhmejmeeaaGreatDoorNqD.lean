/-
  Lists are read.
  What open is given.
  What is recovered.
  What open answers.
  What is read.
  Sameness.
  Sameness of reports; what the law fixes.
-/
import Derived.Test.YtbnemnhmejmeeaaGreatDoorNqC
import Derived.Test.YtbnemnhmejmeeaaGreatDoorFaE
import Derived.Test.YtbnemnhmejmeeaaGreatDoorNqP
section
set_option linter.unusedVariables false
set_option maxRecDepth 100000
set_option maxHeartbeats 4000000
set_option linter.unusedSimpArgs false
namespace Go.Proofs.YtbnemnhmejmeeaaGreatDoor.Bk
open Go.AF
theorem listP_ok (r : Bs) (hr : r.length ≤ 65536) : ACallsP Tryz.prog 55 [.ptr 0 0, .p (.int .i64 30), .func (.func 54) [.ptr 0 0] []] [(rB 150 (r))] (fun v H2 => ∃ l, lstG pckR 30 r = some l ∧ v = .p (pcksV l) ∧ H2 = [(rB 150 ([]))]) (fun y _ => lstG pckR 30 r = none ∧ y = (.iface 147 (.agg [.int .i64 8]))) := by
  refine ACallsP.start (N := 23) Tryz.func55 rfl rfl (Nat.le_of_ble_eq_true rfl) ?_
  refine AWp.seq ?_
  refine AWp.region ?_
  refine AList.c 6 rfl rfl rfl (OpJ.assign rfl rfl) ?_
  refine AList.nil ?_
  refine AWp.seq ?_
  refine AWp.block ?_
  refine AWp.loopHL [0, 1, 2, 22] (fun g => [(6, accV 1 g.1.length)]) (fun g => [(rB 150 (g.2)), accB ((g.1.flatMap Pck.cells).map .p) 57 g.1.length]) (fun g => g.1.length ≤ 30 ∧ g.2.length ≤ r.length ∧ lstG pckR 30 r = (lstG pckR (30 - g.1.length) g.2).map fun y => g.1 ++ y) (fun g => 30 - g.1.length) ([], r) ⟨Nat.zero_le _, Nat.le_refl _, lst_0⟩ (To.pad.trans (To.sub (Sub.chk (Sub.cons rfl Sub.nil)))) (fun g hg => ?_)
  obtain ⟨acc, q⟩ := g
  obtain ⟨hn, hq, hI⟩ := hg
  dsimp only at hn hq hI ⊢
  refine AWp.seq ?_
  refine AWp.seq ?_
  refine AWp.region ?_
  refine AList.c 7 rfl rfl rfl (OpJ.move rfl rfl) ?_
  refine AList.c 8 rfl rfl rfl (OpJ.nilCheck rfl rfl) ?_
  refine AList.c 9 rfl rfl rfl (OpJ.fieldAddr rfl rfl fd150_0 rfl) ?_
  refine AList.c 10 rfl rfl rfl (OpJ.load rfl rfl ty9 rfl) ?_
  refine AList.c 11 rfl rfl rfl (OpJ.strNe _ _ rfl rfl rfl) ?_
  refine AList.nil ?_
  refine AWp.cond _ rfl (fun hc0 => ?_) (fun hc0 => ?_)
  · skip
    have hne : q ≠ [] := by simpa using hc0
    refine AWp.skip ?_
    refine AWp.block ?_
    refine AWp.seq ?_
    refine AWp.seq ?_
    refine AWp.region ?_
    refine AList.c 12 rfl rfl rfl (OpJ.move rfl rfl) ?_
    refine AList.c 13 rfl rfl rfl (OpJ.lenSlice rfl rfl sl55 (alen_acc _ _)) ?_
    refine AList.c 14 rfl rfl rfl (OpJ.move rfl rfl) ?_
    refine AList.c 15 rfl rfl rfl (OpJ.eql rfl rfl rfl) ?_
    refine AList.nil ?_
    refine AWp.cond _ rfl (fun hc1 => ?_) (fun hc1 => ?_)
    · skip
      have hno := lst_full hI (by have h := of_decide_eq_true hc1; omega) hne
      refine AWp.region ?_
      refine AList.callFail 16 (fail_ok) rfl rfl rfl rfl rfl rfl rfl rf75 ⟨_, rfl, hno, rfl⟩
    · skip
      have hk0 : acc.length < 30 := by have h := of_decide_eq_false hc1; omega
      refine AWp.skip ?_
      refine AWp.region ?_
      refine AList.c 17 rfl rfl rfl (OpJ.move rfl rfl) ?_
      refine AList.c 18 rfl rfl rfl (OpJ.move rfl rfl) ?_
      refine AList.callR 19 0 (pack_ok q (by omega)) rfl rfl rfl rfl rfl rfl rfl rfl rf54 (fun h => ⟨_, rfl, lst_fail hI hk0 hne (Option.map_eq_none_iff.1 h), rfl⟩) (fun q0 q1 hq2 => ?_)
      obtain ⟨⟨x, q2⟩, k1, hq3⟩ := Option.map_eq_some_iff.1 hq2
      cases hq3
      have gl := pckR_len k1
      refine AList.c 20 rfl rfl rfl (OpJ.buildImm rfl slz55 (by decide) rfl rfl rfl) ?_
      refine AList.c 21 rfl rfl rfl (OpJ.appendAcc rfl rfl rfl slz55 sl55 rfl ?_ rfl (by decide) rfl by57 (by decide) ?_) ?_
      · rw [List.length_map, Go.AF.flat_len (c := 2) (fun _ => rfl)]; rfl
      · show (2 * (acc.length + 1) + 192) * 32 ≤ 281474976710656; omega
      refine AList.c 6 rfl rfl rfl (OpJ.assign rfl rfl) ?_
      refine AList.nil ?_
      refine ⟨(acc ++ [x], q2), ?_, ?_, ?_⟩
      · exact ⟨by rw [List.length_append]; exact hk0, Nat.le_trans gl hq, lst_step hI hk0 hne k1⟩
      · show 30 - (acc ++ [x]).length < 30 - acc.length
        rw [List.length_append]
        show 30 - (acc.length + 1) < _
        omega
      have eLn : (acc ++ [x]).length = acc.length + 1 := by rw [List.length_append]; rfl
      have eL : (acc ++ [x]).flatMap Pck.cells = acc.flatMap Pck.cells ++ Pck.cells x := by rw [List.flatMap_append]; simp
      dsimp only
      rw [eLn, eL]
      refine To.done [0, 2] rfl (by repeat (first | exact Sub.nil | refine Sub.cons rfl ?_)) ?_
      show (_ : Blk) :: [_] = _ :: [_]
      refine List.cons_eq_cons.2 ⟨rfl, ?_⟩
      show [Blk.row (renL _ (_ ++ _)) _] = [Blk.row _ _]
      rw [renL_app, renL_pure, List.map_append]
      rfl
  · skip
    have hz : q = [] := by simpa using hc0
    subst hz
    have he := lst_end hI rfl
    refine AWp.to (To.accD 6 1 acc.length (xs := acc.flatMap Pck.cells) rfl rfl (fun h => by rw [List.length_eq_zero_iff.1 h]; rfl)) ?_
    refine AWp.exit ?_
    refine AWp.seq ?_
    refine AWp.region ?_
    refine AList.c 22 rfl rfl rfl (OpJ.move rfl rfl) ?_
    refine AList.c 6 rfl rfl rfl (OpJ.assign rfl rfl) ?_
    refine AList.nil ?_
    refine AWp.norm [0] [(6, _)] [(rB 150 ([]))] rfl (by repeat (first | exact Sub.nil | refine Sub.cons rfl ?_)) rfl ?_
    refine AWp.ret ?_
    exact FinOP.one rfl rfl ⟨_, he, rfl, rfl⟩
end Go.Proofs.YtbnemnhmejmeeaaGreatDoor.Bk
end

section
set_option linter.unusedVariables false
set_option maxRecDepth 100000
set_option maxHeartbeats 4000000
set_option linter.unusedSimpArgs false
namespace Go.Proofs.YtbnemnhmejmeeaaGreatDoor.Bk
open Go.AF
theorem readP_ok (r : Bs) (hr : r.length ≤ 65536) : ACallsR Tryz.prog 150 (.iface 147 (.agg [.int .i64 8])) 53 [] (r) ((lstG pckR 30 r).map fun l => (pcksV l, [])) := by
  refine ACallsP.start (N := 9) Tryz.func53 rfl rfl (Nat.le_of_ble_eq_true rfl) ?_
  refine AWp.seq ?_
  refine AWp.region ?_
  refine AList.c 2 rfl rfl rfl (OpJ.assign rfl rfl) ?_
  refine AList.nil ?_
  refine AWp.seq ?_
  refine AWp.region ?_
  refine AList.c 4 rfl rfl rfl (OpJ.move rfl rfl) ?_
  refine AList.c 5 rfl rfl rfl (OpJ.makeFunc rfl rfl rfl) ?_
  refine AList.c 3 rfl rfl rfl (OpJ.assign rfl rfl) ?_
  refine AList.nil ?_
  refine AWp.seq ?_
  refine AWp.region ?_
  refine AList.c 6 rfl rfl rfl (OpJ.move rfl rfl) ?_
  refine AList.c 7 rfl rfl rfl (OpJ.move rfl rfl) ?_
  refine AList.callP 8 (listP_ok r hr) rfl rfl rfl rfl rfl rfl rfl rf55 (fun y H2 h => ⟨_, rfl, by rw [h.1]; rfl, h.2⟩) (fun v H2 hv => ?_)
  obtain ⟨l, hl, rfl, rfl⟩ := hv
  refine AList.c 2 rfl rfl rfl (OpJ.assign rfl rfl) ?_
  refine AList.nil ?_
  refine AWp.ret ?_
  exact FinOP.one rfl rfl ⟨_, _, by rw [hl]; rfl, rfl, rfl⟩
end Go.Proofs.YtbnemnhmejmeeaaGreatDoor.Bk
end

section
set_option linter.unusedVariables false
set_option maxRecDepth 100000
set_option maxHeartbeats 4000000
set_option linter.unusedSimpArgs false
namespace Go.Proofs.YtbnemnhmejmeeaaGreatDoor.Bk
open Go.AF
theorem recP_none {H : List Blk} {Hq : List Blk → Prop} (hH : Hq H) : DRec Tryz.prog 92 [.ptr 0 0, .ptr 1 0] H none Hq := by
  refine DRec.start (N := 18) Tryz.func92 rfl rfl (Nat.le_of_ble_eq_true rfl) (res0 rfl) rfl rfl rfl rfl rfl rfl rfl rfl ?_
  refine AWp.seq ?_
  refine AWp.region ?_
  refine AList.c 6 rfl rfl rfl (OpJ.move rfl rfl) ?_
  refine AList.c 7 rfl rfl rfl (OpJ.ifNeNil rfl rfl ifc20) ?_
  refine AList.nil ?_
  refine AWp.cond _ rfl (fun hc0 => ?_) (fun hc0 => ?_)
  · skip
    cases hc0
  · skip
    refine AWp.skip ?_
    exact ⟨.inl rfl, hH⟩
theorem recP_some {Hq : List Blk → Prop} (hH : ∀ rest, Hq (.cells [.p .nilSlice] 55 :: .cells [.p (.int .i64 8)] 36 :: rest)) : DRec Tryz.prog 92 [.ptr 0 0, .ptr 1 0] [.cells [.p .nilSlice] 55, .cells [.p (.int .i64 0)] 36, .dead] (some (.iface 147 (.agg [.int .i64 8]))) Hq := by
  refine DRec.start (N := 18) Tryz.func92 rfl rfl (Nat.le_of_ble_eq_true rfl) (res0 rfl) rfl rfl rfl rfl rfl rfl rfl rfl ?_
  refine AWp.seq ?_
  refine AWp.region ?_
  refine AList.c 6 rfl rfl rfl (OpJ.move rfl rfl) ?_
  refine AList.c 7 rfl rfl rfl (OpJ.ifNe rfl rfl ifc20) ?_
  refine AList.nil ?_
  refine AWp.cond _ rfl (fun hc0 => ?_) (fun hc0 => ?_)
  · skip
    refine AWp.seq ?_
    refine AWp.region ?_
    refine AList.c 9 rfl rfl rfl (OpJ.move rfl rfl) ?_
    refine AList.c 10 rfl rfl rfl (OpJ.taG rfl rfl con147 (⟨147, _, rfl, .inl ⟨rfl, rfl⟩⟩)) ?_
    refine AList.c 8 rfl rfl rfl (OpJ.move rfl rfl) ?_
    refine AList.c 11 rfl rfl rfl (OpJ.extract rfl rfl rfl) ?_
    refine AList.c 12 rfl rfl rfl (OpJ.extract rfl rfl rfl) ?_
    refine AList.c 3 rfl rfl rfl (OpJ.allocOwn rfl zr147 rfl) ?_
    refine AList.c0 rfl rfl (OpJ.store rfl rfl rfl rfl rfl ty147 rfl rfl) ?_
    refine AList.c 4 rfl rfl rfl (OpJ.assign rfl rfl) ?_
    refine AList.nil ?_
    refine AWp.seq ?_
    refine AWp.seq ?_
    refine AWp.region ?_
    refine AList.c 13 rfl rfl rfl (OpJ.move rfl rfl) ?_
    refine AList.c 14 rfl rfl rfl (OpJ.not_ rfl rfl) ?_
    refine AList.nil ?_
    refine AWp.cond _ rfl (fun hc1 => ?_) (fun hc1 => ?_)
    · skip
      cases hc1
    · skip
      refine AWp.skip ?_
      refine AWp.regionDrawG 3 0 [0] [([], false), ([3], false), ([0], true)] mixed (by kernel_rfl) (by decide) (by kernel_rfl) rfl rfl ?_
      refine AQG.cons 16 rfl rfl rfl (fun _ => (OpJ.fieldAddr rfl rfl fd147_0 rfl)) rfl ?_
      refine AQG.cons 17 rfl rfl rfl (fun _ => (OpJ.load rfl rfl ty36 rfl)) rfl ?_
      refine AQG.put 0 rfl rfl rfl rfl (fun _ => (OpJ.store rfl rfl rfl rfl rfl ty55 rfl rfl)) rfl rfl ?_
      refine AQG.nil ?_
      refine AList.c0 rfl rfl (OpJ.store rfl rfl rfl rfl rfl ty36 rfl rfl) ?_
      refine AList.nil ?_
      exact ⟨.inl rfl, hH _⟩
  · skip
    cases hc0
end Go.Proofs.YtbnemnhmejmeeaaGreatDoor.Bk
end

section
set_option linter.unusedVariables false
set_option maxRecDepth 100000
set_option maxHeartbeats 4000000
set_option linter.unusedSimpArgs false
namespace Go.Proofs.YtbnemnhmejmeeaaGreatDoor.Bk
open Go.AF
theorem openP_ok_big (s : Bs) (hbig : 65536 < s.length) : Pure Tryz.prog 52 [.str (sB s), (.func (.func 53) [] []), (.func (.func 50) [] [])] (.tuple [(opnP (lstG pckR 30) pcksB pcksV s).1, .int .i64 (opnP (lstG pckR 30) pcksB pcksV s).2]) := by
  refine Pure.start (N := 22) Tryz.func52 rfl rfl (Nat.le_of_ble_eq_true rfl) ?_
  refine AWp.seq ?_
  refine AWp.region ?_
  refine AList.c 6 rfl rfl rfl (OpJ.allocOwn rfl zr55 rfl) ?_
  refine AList.c 7 rfl rfl rfl (OpJ.allocOwn rfl zr36 rfl) ?_
  refine AList.nil ?_
  refine AWp.seq ?_
  refine AWp.seq ?_
  refine AWp.region ?_
  refine AList.c 8 rfl rfl rfl (OpJ.move rfl rfl) ?_
  refine AList.c 9 rfl rfl rfl (OpJ.lenStr rfl rfl un9) ?_
  refine AList.c 10 rfl rfl rfl (OpJ.gtr rfl rfl rfl) ?_
  refine AList.nil ?_
  refine AWp.cond _ rfl (fun hc0 => ?_) (fun hc0 => ?_)
  · skip
    refine AWp.seq ?_
    refine AWp.region ?_
    refine AList.c0 rfl rfl (OpJ.store rfl rfl rfl rfl rfl ty55 rfl rfl) ?_
    refine AList.c0 rfl rfl (OpJ.store rfl rfl rfl rfl rfl ty36 rfl rfl) ?_
    refine AList.nil ?_
    refine AWp.ret ?_
    refine Fin.manyE (xs := [.nilSlice, .int .i64 3]) rfl (⟨_, _, rfl, ⟨_, _, _, rfl, ty55, rfl⟩, ⟨_, _, rfl, ⟨_, _, _, rfl, ty36, rfl⟩, rfl⟩⟩) rfl ?_
    rw [opn_big hbig]
  · skip
    exfalso
    have h := of_decide_eq_false hc0
    rw [sB_size] at h
    omega
theorem openP_ok_small (s : Bs) (hs : s.length ≤ 65536) : Pure Tryz.prog 52 [.str (sB s), (.func (.func 53) [] []), (.func (.func 50) [] [])] (.tuple [(opnP (lstG pckR 30) pcksB pcksV s).1, .int .i64 (opnP (lstG pckR 30) pcksB pcksV s).2]) := by
  refine Pure.of_calls (ACalls.startD (N := 22) (g := 92) (dm := 11) (T1 := [(0, .p (.str (sB s))), (1, .p (.func (.func 53) [] [])), (2, .p (.func (.func 50) [] [])), (6, .ptr 0 0), (7, .ptr 1 0)]) (H1 := [.cells [.p .nilSlice] 55, .cells [.p (.int .i64 0)] 36]) (caps := [.ptr 0 0, .ptr 1 0]) Tryz.func52 rfl rfl (Nat.le_of_ble_eq_true rfl) ?_ (OpJ.makeFunc (fi := []) (ca := [.ptr 0 0, .ptr 1 0]) rfl rfl rfl) rfl rfl rfl rfl rfl rfl rf92 ?_)
  · skip
    refine AWp.region ?_
    refine AList.c 6 rfl rfl rfl (OpJ.allocOwn rfl zr55 rfl) ?_
    refine AList.c 7 rfl rfl rfl (OpJ.allocOwn rfl zr36 rfl) ?_
    refine AList.nil ?_
    refine AWp.seq ?_
    refine AWp.region ?_
    refine AList.c 8 rfl rfl rfl (OpJ.move rfl rfl) ?_
    refine AList.c 9 rfl rfl rfl (OpJ.lenStr rfl rfl un9) ?_
    refine AList.c 10 rfl rfl rfl (OpJ.gtr rfl rfl rfl) ?_
    refine AList.nil ?_
    refine AWp.cond _ rfl (fun hc0 => ?_) (fun hc0 => ?_)
    · skip
      exfalso
      have h := of_decide_eq_true hc0
      rw [sB_size] at h
      omega
    · skip
      refine AWp.skip ?_
      exact ⟨(by repeat (first | exact Sub.nil | refine Sub.cons rfl ?_)), rfl⟩
  · skip
    refine AWp.seq ?_
    refine AWp.seq ?_
    refine AWp.region ?_
    refine AList.c 12 rfl rfl rfl (OpJ.move rfl rfl) ?_
    refine AList.c 13 rfl rfl rfl (OpJ.move rfl rfl) ?_
    refine AList.c 14 rfl rfl rfl (OpJ.build rfl bd150 rfl rfl) ?_
    refine AList.c 15 rfl rfl rfl (OpJ.boxOwn rfl rfl rfl) ?_
    refine AList.callR 16 2 (readP_ok s hs) rfl rfl rfl rfl rfl rfl rfl rfl rf53 (fun hn => ⟨_, rfl, recP_some (fun rest => ⟨_, resV.many (vs := [.p .nilSlice, .p (.int .i64 8)]) rfl (⟨_, _, rfl, ⟨_, _, _, rfl, ty55, rfl⟩, ⟨_, _, rfl, ⟨_, _, _, rfl, ty36, rfl⟩, rfl⟩⟩), by rw [opn_no hs (Option.map_eq_none_iff.1 hn)]; rfl⟩)⟩) (fun q0 q1 hq => ?_)
    obtain ⟨l, hl, hq2⟩ := Option.map_eq_some_iff.1 hq
    cases hq2
    refine AList.c0 rfl rfl (OpJ.store rfl rfl rfl rfl rfl ty55 rfl rfl) ?_
    refine AList.nil ?_
    refine AWp.seq ?_
    refine AWp.region ?_
    refine AList.c 17 rfl rfl rfl (OpJ.move rfl rfl) ?_
    refine AList.c 18 rfl rfl rfl (OpJ.load (v := .p (pcksV l)) rfl rfl ty55 rfl) ?_
    refine AList.c 19 rfl rfl rfl (OpJ.callP (arePacks_ok l (pcks_n hs hl).1 (pcks_n hs hl).2) rfl rfl rfl rfl rf50) ?_
    refine AList.c 20 rfl rfl rfl (OpJ.not_ rfl rfl) ?_
    refine AList.nil ?_
    refine AWp.cond _ rfl (fun hc1 => ?_) (fun hc1 => ?_)
    · skip
      have hbad : pcksB l = false := by simpa using hc1
      refine AWp.seq ?_
      refine AWp.region ?_
      refine AList.c0 rfl rfl (OpJ.store rfl rfl rfl rfl rfl ty55 rfl rfl) ?_
      refine AList.c0 rfl rfl (OpJ.store rfl rfl rfl rfl rfl ty36 rfl rfl) ?_
      refine AList.nil ?_
      refine AWp.ret ?_
      exact recP_none ⟨_, resV.many (vs := [.p .nilSlice, .p (.int .i64 8)]) rfl (⟨_, _, rfl, ⟨_, _, _, rfl, ty55, rfl⟩, ⟨_, _, rfl, ⟨_, _, _, rfl, ty36, rfl⟩, rfl⟩⟩), by rw [opn_bad hs hl hbad]; rfl⟩
    · skip
      have hok : pcksB l = true := by simpa using hc1
      refine AWp.skip ?_
      refine AWp.seq ?_
      refine AWp.region ?_
      refine AList.c 21 rfl rfl rfl (OpJ.load rfl rfl ty55 rfl) ?_
      refine AList.c0 rfl rfl (OpJ.store rfl rfl rfl rfl rfl ty55 rfl rfl) ?_
      refine AList.c0 rfl rfl (OpJ.store rfl rfl rfl rfl rfl ty36 rfl rfl) ?_
      refine AList.nil ?_
      refine AWp.ret ?_
      exact recP_none ⟨_, resV.many (vs := [.p (pcksV l), .p (.int .i64 0)]) rfl (⟨_, _, rfl, ⟨_, _, _, rfl, ty55, rfl⟩, ⟨_, _, rfl, ⟨_, _, _, rfl, ty36, rfl⟩, rfl⟩⟩), by rw [opn_ok hs hl hok]; rfl⟩
theorem openP_ok (s : Bs) : Pure Tryz.prog 52 [.str (sB s), (.func (.func 53) [] []), (.func (.func 50) [] [])] (.tuple [(opnP (lstG pckR 30) pcksB pcksV s).1, .int .i64 (opnP (lstG pckR 30) pcksB pcksV s).2]) := by
  rcases Nat.lt_or_ge 65536 s.length with h | h
  · exact openP_ok_big s h
  · exact openP_ok_small s h
end Go.Proofs.YtbnemnhmejmeeaaGreatDoor.Bk
end

section
set_option linter.unusedVariables false
set_option maxRecDepth 100000
set_option maxHeartbeats 4000000
set_option linter.unusedSimpArgs false
namespace Go.Proofs.YtbnemnhmejmeeaaGreatDoor.Bk
open Go.AF
theorem readPacks_ok (s : Bs) : Pure Tryz.prog 17 [.str (sB s)] (.tuple [(rdP s).1, .int .i64 (rdP s).2]) := by
  refine Pure.start (N := 25) Tryz.func17 rfl rfl (Nat.le_of_ble_eq_true rfl) ?_
  refine AWp.seq ?_
  refine AWp.region ?_
  refine AList.c 2 rfl rfl rfl (OpJ.assign rfl rfl) ?_
  refine AList.c 3 rfl rfl rfl (OpJ.assign rfl rfl) ?_
  refine AList.nil ?_
  refine AWp.seq ?_
  refine AWp.region ?_
  refine AList.c 9 rfl rfl rfl (OpJ.move rfl rfl) ?_
  refine AList.c 10 rfl rfl rfl (OpJ.callP (openP_ok s) rfl rfl rfl rfl rf52) ?_
  refine AList.c 8 rfl rfl rfl (OpJ.move rfl rfl) ?_
  refine AList.c 11 rfl rfl rfl (OpJ.extract rfl rfl rfl) ?_
  refine AList.c 12 rfl rfl rfl (OpJ.extract rfl rfl rfl) ?_
  refine AList.c 4 rfl rfl rfl (OpJ.assign rfl rfl) ?_
  refine AList.c 5 rfl rfl rfl (OpJ.assign rfl rfl) ?_
  refine AList.nil ?_
  refine AWp.seq ?_
  refine AWp.seq ?_
  refine AWp.region ?_
  refine AList.c 13 rfl rfl rfl (OpJ.move rfl rfl) ?_
  refine AList.c 14 rfl rfl rfl (OpJ.neq rfl rfl rfl) ?_
  refine AList.nil ?_
  refine AWp.cond _ rfl (fun hc0 => ?_) (fun hc0 => ?_)
  · skip
    have hz : (opP s).2 ≠ 0 := by simpa using hc0
    refine AWp.seq ?_
    refine AWp.region ?_
    refine AList.c 15 rfl rfl rfl (OpJ.move rfl rfl) ?_
    refine AList.c 2 rfl rfl rfl (OpJ.assign rfl rfl) ?_
    refine AList.c 3 rfl rfl rfl (OpJ.assign rfl rfl) ?_
    refine AList.nil ?_
    refine AWp.ret ?_
    refine Fin.manyE (xs := [.nilSlice, .int .i64 (opP s).2]) rfl ⟨_, _, rfl, rfl, ⟨_, _, rfl, rfl, rfl⟩⟩ rfl ?_
    rw [rdP_e hz]
  · skip
    have hz : (opP s).2 = 0 := by simpa using hc0
    obtain ⟨hs, l, hl, hok, hE⟩ := opn_zero hz
    rw [hE]
    dsimp only
    refine AWp.skip ?_
    refine AWp.seq ?_
    refine AWp.seq ?_
    refine AWp.region ?_
    refine AList.c 17 rfl rfl rfl (OpJ.move rfl rfl) ?_
    refine AList.c 18 rfl rfl rfl (OpJ.callP (writePacks_ok l (pcks_n hs hl).1 (pcks_n hs hl).2) rfl rfl rfl rfl rf16) ?_
    refine AList.c 16 rfl rfl rfl (OpJ.move rfl rfl) ?_
    refine AList.c 19 rfl rfl rfl (OpJ.extract rfl rfl rfl) ?_
    refine AList.c 20 rfl rfl rfl (OpJ.extract rfl rfl rfl) ?_
    refine AList.c 6 rfl rfl rfl (OpJ.assign rfl rfl) ?_
    refine AList.c 7 rfl rfl rfl (OpJ.assign rfl rfl) ?_
    refine AList.nil ?_
    refine AWp.seq ?_
    refine AWp.region ?_
    refine AList.c 21 rfl rfl rfl (OpJ.move rfl rfl) ?_
    refine AList.c 22 rfl rfl rfl (OpJ.move rfl rfl) ?_
    refine AList.c 23 rfl rfl rfl (OpJ.strNe _ _ rfl rfl rfl) ?_
    refine AList.nil ?_
    refine AWp.cond _ rfl (fun hc1 => ?_) (fun hc1 => ?_)
    · skip
      have hw : (wrP l).1 ≠ s := by simpa using hc1
      refine AWp.seq ?_
      refine AWp.region ?_
      refine AList.c 2 rfl rfl rfl (OpJ.assign rfl rfl) ?_
      refine AList.c 3 rfl rfl rfl (OpJ.assign rfl rfl) ?_
      refine AList.nil ?_
      refine AWp.ret ?_
      refine Fin.manyE (xs := [.nilSlice, .int .i64 8]) rfl ⟨_, _, rfl, rfl, ⟨_, _, rfl, rfl, rfl⟩⟩ rfl ?_
      rw [rdP_no hz hl hw]
    · skip
      have hw : (wrP l).1 = s := by simpa using hc1
      refine AWp.skip ?_
      refine AWp.seq ?_
      refine AWp.region ?_
      refine AList.c 24 rfl rfl rfl (OpJ.move rfl rfl) ?_
      refine AList.c 2 rfl rfl rfl (OpJ.assign rfl rfl) ?_
      refine AList.c 3 rfl rfl rfl (OpJ.assign rfl rfl) ?_
      refine AList.nil ?_
      refine AWp.ret ?_
      refine Fin.manyE (xs := [pcksV l, .int .i64 0]) rfl ⟨_, _, rfl, rfl, ⟨_, _, rfl, rfl, rfl⟩⟩ rfl ?_
      rw [rdP_ok hz hl hw]
end Go.Proofs.YtbnemnhmejmeeaaGreatDoor.Bk
end

section
set_option linter.unusedVariables false
set_option maxRecDepth 100000
set_option maxHeartbeats 4000000
set_option linter.unusedSimpArgs false
namespace Go.Proofs.YtbnemnhmejmeeaaGreatDoor.Bk
open Go.AF
theorem ints_ok (a b : List Int) (hla : a.length ≤ bigN) (hlb : b.length ≤ bigN) : Pure Tryz.prog 19 [intsV a, intsV b] (.bool (decide (a = b))) := by
  have hla2 := hla
  have hlb2 := hlb
  unfold bigN at hla2 hlb2
  refine Pure.start (N := 26) Tryz.func19 rfl rfl (Nat.le_of_ble_eq_true rfl) ?_
  refine AWp.seq ?_
  refine AWp.region ?_
  refine AList.c 4 rfl rfl rfl (OpJ.assign rfl rfl) ?_
  refine AList.nil ?_
  refine AWp.seq ?_
  refine AWp.seq ?_
  refine AWp.region ?_
  refine AList.c 6 rfl rfl rfl (OpJ.move rfl rfl) ?_
  refine AList.c 7 rfl rfl rfl (OpJ.lenSlice rfl rfl sl45 rfl) ?_
  refine AList.c 8 rfl rfl rfl (OpJ.move rfl rfl) ?_
  refine AList.c 9 rfl rfl rfl (OpJ.lenSlice rfl rfl sl45 rfl) ?_
  refine AList.c 10 rfl rfl rfl (OpJ.neq rfl rfl rfl) ?_
  refine AList.nil ?_
  refine AWp.cond _ rfl (fun hc0 => ?_) (fun hc0 => ?_)
  · skip
    have hl : a.length ≠ b.length := by simp at hc0; omega
    refine AWp.seq ?_
    refine AWp.region ?_
    refine AList.c 4 rfl rfl rfl (OpJ.assign rfl rfl) ?_
    refine AList.nil ?_
    refine AWp.ret ?_
    refine Fin.oneE rfl rfl ?_
    rw [decide_eq_false (fun h => hl (by rw [h]))]
  · skip
    have hl : a.length = b.length := by simp at hc0; omega
    refine AWp.skip ?_
    refine AWp.seq ?_
    refine AWp.seq ?_
    refine AWp.region ?_
    refine AList.c 5 rfl rfl rfl (OpJ.assign rfl rfl) ?_
    refine AList.nil ?_
    refine AWp.block ?_
    refine AWp.loopHL [0, 1] (fun g => [(5, .p (.int .i64 ((g : Nat) : Int)))]) (fun g => []) (fun g => g ≤ a.length ∧ a.take g = b.take g) (fun g => a.length - g) 0 ⟨Nat.zero_le _, rfl⟩ (To.sub (Sub.chk (Sub.cons rfl (Sub.nil)))) (fun i ⟨hi, hI⟩ => ?_)
    refine AWp.seq ?_
    refine AWp.seq ?_
    refine AWp.region ?_
    refine AList.c 11 rfl rfl rfl (OpJ.move rfl rfl) ?_
    refine AList.c 12 rfl rfl rfl (OpJ.move rfl rfl) ?_
    refine AList.c 13 rfl rfl rfl (OpJ.lenSlice rfl rfl sl45 rfl) ?_
    refine AList.c 14 rfl rfl rfl (OpJ.lss rfl rfl rfl) ?_
    refine AList.nil ?_
    refine AWp.cond _ rfl (fun hc1 => ?_) (fun hc1 => ?_)
    · skip
      have hk0 : i < a.length := by have h := of_decide_eq_true hc1; omega
      refine AWp.skip ?_
      refine AWp.seq ?_
      refine AWp.block ?_
      refine AWp.seq ?_
      refine AWp.regionDraw 9 mixed (by kernel_rfl) (by decide) ?_
      refine AQuiet.cons 17 rfl rfl rfl (OpJ.move rfl rfl) ?_
      refine AQuiet.cons 18 rfl rfl rfl (OpJ.move rfl rfl) ?_
      refine AQuiet.cons 19 rfl rfl rfl (OpJ.indexG (g := gt 0 a) (gt_get _) rfl rfl rfl sl45 el45 rfl (fun _ => rfl) (by decide) hk0) ?_
      refine AQuiet.cons 20 rfl rfl rfl (OpJ.load (v := .p (.int .i64 (gt 0 a i))) rfl rfl ty3 rfl) ?_
      refine AQuiet.cons 21 rfl rfl rfl (OpJ.move rfl rfl) ?_
      refine AQuiet.cons 22 rfl rfl rfl (OpJ.move rfl rfl) ?_
      refine AQuiet.cons 23 rfl rfl rfl (OpJ.indexG (g := gt 0 b) (gt_get _) rfl rfl rfl sl45 el45 rfl (fun _ => rfl) (by decide) (by omega)) ?_
      refine AQuiet.cons 24 rfl rfl rfl (OpJ.load (v := .p (.int .i64 (gt 0 b i))) rfl rfl ty3 rfl) ?_
      refine AQuiet.cons 25 rfl rfl rfl (OpJ.neq rfl rfl rfl) ?_
      refine AQuiet.nil ?_
      refine AList.nil ?_
      refine AWp.cond _ rfl (fun hc2 => ?_) (fun hc2 => ?_)
      · skip
        have he : gt 0 a i ≠ gt 0 b i := by simpa using hc2
        refine AWp.seq ?_
        refine AWp.region ?_
        refine AList.c 4 rfl rfl rfl (OpJ.assign rfl rfl) ?_
        refine AList.nil ?_
        refine AWp.ret ?_
        refine Fin.oneE rfl rfl ?_
        rw [decide_eq_false (same_no 0 he)]
      · skip
        have he : gt 0 a i = gt 0 b i := by simpa using hc2
        refine AWp.skip ?_
        refine AWp.region ?_
        refine AList.c 15 rfl rfl rfl (OpJ.move rfl rfl) ?_
        refine AList.c 16 rfl rfl rfl (OpJ.add rfl rfl rfl (i64ok ?_)) ?_
        · omega
        refine AList.c 5 rfl rfl rfl (OpJ.assign rfl rfl) ?_
        refine AList.nil ?_
        refine ⟨i + 1, ?_, ?_, ?_⟩
        · exact ⟨hk0, same_step 0 hk0 (by omega) hI he⟩
        · omega
        exact To.done [] rfl (by repeat (first | exact Sub.nil | refine Sub.cons rfl ?_)) rfl
    · skip
      have hi2 : i = a.length := by have h := of_decide_eq_false hc1; omega
      subst hi2
      refine AWp.exit ?_
      refine AWp.seq ?_
      refine AWp.region ?_
      refine AList.c 4 rfl rfl rfl (OpJ.assign rfl rfl) ?_
      refine AList.nil ?_
      refine AWp.ret ?_
      refine Fin.oneE rfl rfl ?_
      rw [decide_eq_true (same_end hl hI)]
end Go.Proofs.YtbnemnhmejmeeaaGreatDoor.Bk
end

section
set_option linter.unusedVariables false
set_option maxRecDepth 100000
set_option maxHeartbeats 4000000
set_option linter.unusedSimpArgs false
namespace Go.Proofs.YtbnemnhmejmeeaaGreatDoor.Bk
open Go.AF
end Go.Proofs.YtbnemnhmejmeeaaGreatDoor.Bk
end
