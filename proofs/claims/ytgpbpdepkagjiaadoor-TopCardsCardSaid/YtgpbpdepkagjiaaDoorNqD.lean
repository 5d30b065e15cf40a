/-
  Lists are read.
  What open is given.
  What is recovered.
  What open answers.
  What is read.
-/
import Derived.Test.YtgpbpdepkagjiaaDoorNqC
import Derived.Test.YtgpbpdepkagjiaaDoorFaE
import Derived.Test.YtgpbpdepkagjiaaDoorNqP
section
set_option linter.unusedVariables false
set_option maxRecDepth 100000
set_option maxHeartbeats 4000000
set_option linter.unusedSimpArgs false
namespace Go.Proofs.YtgpbpdepkagjiaaDoor.Bk
open Go.AF
end Go.Proofs.YtgpbpdepkagjiaaDoor.Bk
end

section
set_option linter.unusedVariables false
set_option maxRecDepth 100000
set_option maxHeartbeats 4000000
set_option linter.unusedSimpArgs false
namespace Go.Proofs.YtgpbpdepkagjiaaDoor.Bk
open Go.AF
end Go.Proofs.YtgpbpdepkagjiaaDoor.Bk
end

section
set_option linter.unusedVariables false
set_option maxRecDepth 100000
set_option maxHeartbeats 4000000
set_option linter.unusedSimpArgs false
namespace Go.Proofs.YtgpbpdepkagjiaaDoor.Bk
open Go.AF
theorem recC_none {H : List Blk} {Hq : List Blk → Prop} (hH : Hq H) : DRec Tryd.prog 42 [.ptr 0 0, .ptr 1 0] H none Hq := by
  refine DRec.start (N := 18) Tryd.func42 rfl rfl (Nat.le_of_ble_eq_true rfl) (res0 rfl) rfl rfl rfl rfl rfl rfl rfl rfl ?_
  refine AWp.seq ?_
  refine AWp.region ?_
  refine AList.c 6 rfl rfl rfl (OpJ.move rfl rfl) ?_
  refine AList.c 7 rfl rfl rfl (OpJ.ifNeNil rfl rfl ifc20) ?_
  refine AList.nil ?_
  refine AWp.cond _ rfl (fun hc0 => ?_) (fun hc0 => ?_)
  · skip
    cases hc0
  · skip
    refine AWp.skip ?_
    exact ⟨.inl rfl, hH⟩
theorem recC_some {Hq : List Blk → Prop} (hH : ∀ rest, Hq (.cells [.p .nilSlice] 26 :: .cells [.p (.int .i64 8)] 31 :: rest)) : DRec Tryd.prog 42 [.ptr 0 0, .ptr 1 0] [.cells [.p .nilSlice] 26, .cells [.p (.int .i64 0)] 31, .dead] (some (.iface 112 (.agg [.int .i64 8]))) Hq := by
  refine DRec.start (N := 18) Tryd.func42 rfl rfl (Nat.le_of_ble_eq_true rfl) (res0 rfl) rfl rfl rfl rfl rfl rfl rfl rfl ?_
  refine AWp.seq ?_
  refine AWp.region ?_
  refine AList.c 6 rfl rfl rfl (OpJ.move rfl rfl) ?_
  refine AList.c 7 rfl rfl rfl (OpJ.ifNe rfl rfl ifc20) ?_
  refine AList.nil ?_
  refine AWp.cond _ rfl (fun hc0 => ?_) (fun hc0 => ?_)
  · skip
    refine AWp.seq ?_
    refine AWp.region ?_
    refine AList.c 9 rfl rfl rfl (OpJ.move rfl rfl) ?_
    refine AList.c 10 rfl rfl rfl (OpJ.taG rfl rfl con112 (⟨112, _, rfl, .inl ⟨rfl, rfl⟩⟩)) ?_
    refine AList.c 8 rfl rfl rfl (OpJ.move rfl rfl) ?_
    refine AList.c 11 rfl rfl rfl (OpJ.extract rfl rfl rfl) ?_
    refine AList.c 12 rfl rfl rfl (OpJ.extract rfl rfl rfl) ?_
    refine AList.c 3 rfl rfl rfl (OpJ.allocOwn rfl zr112 rfl) ?_
    refine AList.c0 rfl rfl (OpJ.store rfl rfl rfl rfl rfl ty112 rfl rfl) ?_
    refine AList.c 4 rfl rfl rfl (OpJ.assign rfl rfl) ?_
    refine AList.nil ?_
    refine AWp.seq ?_
    refine AWp.seq ?_
    refine AWp.region ?_
    refine AList.c 13 rfl rfl rfl (OpJ.move rfl rfl) ?_
    refine AList.c 14 rfl rfl rfl (OpJ.not_ rfl rfl) ?_
    refine AList.nil ?_
    refine AWp.cond _ rfl (fun hc1 => ?_) (fun hc1 => ?_)
    · skip
      cases hc1
    · skip
      refine AWp.skip ?_
      refine AWp.regionDrawG 3 0 [0] [([], false), ([3], false), ([0], true)] mixed (by kernel_rfl) (by decide) (by kernel_rfl) rfl rfl ?_
      refine AQG.cons 16 rfl rfl rfl (fun _ => (OpJ.fieldAddr rfl rfl fd112_0 rfl)) rfl ?_
      refine AQG.cons 17 rfl rfl rfl (fun _ => (OpJ.load rfl rfl ty31 rfl)) rfl ?_
      refine AQG.put 0 rfl rfl rfl rfl (fun _ => (OpJ.store rfl rfl rfl rfl rfl ty26 rfl rfl)) rfl rfl ?_
      refine AQG.nil ?_
      refine AList.c0 rfl rfl (OpJ.store rfl rfl rfl rfl rfl ty31 rfl rfl) ?_
      refine AList.nil ?_
      exact ⟨.inl rfl, hH _⟩
  · skip
    cases hc0
end Go.Proofs.YtgpbpdepkagjiaaDoor.Bk
end

section
set_option linter.unusedVariables false
set_option maxRecDepth 100000
set_option maxHeartbeats 4000000
set_option linter.unusedSimpArgs false
namespace Go.Proofs.YtgpbpdepkagjiaaDoor.Bk
open Go.AF
theorem openC_ok_big (s : Bs) (hbig : 65536 < s.length) : Pure Tryd.prog 23 [.str (sB s), (.func (.func 24) [] []), (.func (.func 16) [] [])] (.tuple [(opnP crdsL crdsB crdsV s).1, .int .i64 (opnP crdsL crdsB crdsV s).2]) := by
  refine Pure.start (N := 22) Tryd.func23 rfl rfl (Nat.le_of_ble_eq_true rfl) ?_
  refine AWp.seq ?_
  refine AWp.region ?_
  refine AList.c 6 rfl rfl rfl (OpJ.allocOwn rfl zr26 rfl) ?_
  refine AList.c 7 rfl rfl rfl (OpJ.allocOwn rfl zr31 rfl) ?_
  refine AList.nil ?_
  refine AWp.seq ?_
  refine AWp.seq ?_
  refine AWp.region ?_
  refine AList.c 8 rfl rfl rfl (OpJ.move rfl rfl) ?_
  refine AList.c 9 rfl rfl rfl (OpJ.lenStr rfl rfl un9) ?_
  refine AList.c 10 rfl rfl rfl (OpJ.gtr rfl rfl rfl) ?_
  refine AList.nil ?_
  refine AWp.cond _ rfl (fun hc0 => ?_) (fun hc0 => ?_)
  · skip
    refine AWp.seq ?_
    refine AWp.region ?_
    refine AList.c0 rfl rfl (OpJ.store rfl rfl rfl rfl rfl ty26 rfl rfl) ?_
    refine AList.c0 rfl rfl (OpJ.store rfl rfl rfl rfl rfl ty31 rfl rfl) ?_
    refine AList.nil ?_
    refine AWp.ret ?_
    refine Fin.manyE (xs := [.nilSlice, .int .i64 3]) rfl (⟨_, _, rfl, ⟨_, _, _, rfl, ty26, rfl⟩, ⟨_, _, rfl, ⟨_, _, _, rfl, ty31, rfl⟩, rfl⟩⟩) rfl ?_
    rw [opn_big hbig]
  · skip
    exfalso
    have h := of_decide_eq_false hc0
    rw [sB_size] at h
    omega
theorem openC_ok_small (s : Bs) (hs : s.length ≤ 65536) : Pure Tryd.prog 23 [.str (sB s), (.func (.func 24) [] []), (.func (.func 16) [] [])] (.tuple [(opnP crdsL crdsB crdsV s).1, .int .i64 (opnP crdsL crdsB crdsV s).2]) := by
  refine Pure.of_calls (ACalls.startD (N := 22) (g := 42) (dm := 11) (T1 := [(0, .p (.str (sB s))), (1, .p (.func (.func 24) [] [])), (2, .p (.func (.func 16) [] [])), (6, .ptr 0 0), (7, .ptr 1 0)]) (H1 := [.cells [.p .nilSlice] 26, .cells [.p (.int .i64 0)] 31]) (caps := [.ptr 0 0, .ptr 1 0]) Tryd.func23 rfl rfl (Nat.le_of_ble_eq_true rfl) ?_ (OpJ.makeFunc (fi := []) (ca := [.ptr 0 0, .ptr 1 0]) rfl rfl rfl) rfl rfl rfl rfl rfl rfl rf42 ?_)
  · skip
    refine AWp.region ?_
    refine AList.c 6 rfl rfl rfl (OpJ.allocOwn rfl zr26 rfl) ?_
    refine AList.c 7 rfl rfl rfl (OpJ.allocOwn rfl zr31 rfl) ?_
    refine AList.nil ?_
    refine AWp.seq ?_
    refine AWp.region ?_
    refine AList.c 8 rfl rfl rfl (OpJ.move rfl rfl) ?_
    refine AList.c 9 rfl rfl rfl (OpJ.lenStr rfl rfl un9) ?_
    refine AList.c 10 rfl rfl rfl (OpJ.gtr rfl rfl rfl) ?_
    refine AList.nil ?_
    refine AWp.cond _ rfl (fun hc0 => ?_) (fun hc0 => ?_)
    · skip
      exfalso
      have h := of_decide_eq_true hc0
      rw [sB_size] at h
      omega
    · skip
      refine AWp.skip ?_
      exact ⟨(by repeat (first | exact Sub.nil | refine Sub.cons rfl ?_)), rfl⟩
  · skip
    refine AWp.seq ?_
    refine AWp.seq ?_
    refine AWp.region ?_
    refine AList.c 12 rfl rfl rfl (OpJ.move rfl rfl) ?_
    refine AList.c 13 rfl rfl rfl (OpJ.move rfl rfl) ?_
    refine AList.c 14 rfl rfl rfl (OpJ.build rfl bd115 rfl rfl) ?_
    refine AList.c 15 rfl rfl rfl (OpJ.boxOwn rfl rfl rfl) ?_
    refine AList.callR 16 2 (cards_ok s hs) rfl rfl rfl rfl rfl rfl rfl rfl rf24 (fun hn => ⟨_, rfl, recC_some (fun rest => ⟨_, resV.many (vs := [.p .nilSlice, .p (.int .i64 8)]) rfl (⟨_, _, rfl, ⟨_, _, _, rfl, ty26, rfl⟩, ⟨_, _, rfl, ⟨_, _, _, rfl, ty31, rfl⟩, rfl⟩⟩), by rw [opn_no hs (crdsL_no (Option.map_eq_none_iff.1 hn))]; rfl⟩)⟩) (fun q0 q1 hq => ?_)
    obtain ⟨⟨l, q⟩, hl0, hq2⟩ := Option.map_eq_some_iff.1 hq
    cases hq2
    have hl := crdsL_of hl0
    refine AList.c0 rfl rfl (OpJ.store rfl rfl rfl rfl rfl ty26 rfl rfl) ?_
    refine AList.nil ?_
    refine AWp.seq ?_
    refine AWp.region ?_
    refine AList.c 17 rfl rfl rfl (OpJ.move rfl rfl) ?_
    refine AList.c 18 rfl rfl rfl (OpJ.load (v := .p (crdsV l)) rfl rfl ty26 rfl) ?_
    refine AList.c 19 rfl rfl rfl (OpJ.callP (areCards_ok l (crds_n hl)) rfl rfl rfl rfl rf16) ?_
    refine AList.c 20 rfl rfl rfl (OpJ.not_ rfl rfl) ?_
    refine AList.nil ?_
    refine AWp.cond _ rfl (fun hc1 => ?_) (fun hc1 => ?_)
    · skip
      have hbad : crdsB l = false := by simpa using hc1
      refine AWp.seq ?_
      refine AWp.region ?_
      refine AList.c0 rfl rfl (OpJ.store rfl rfl rfl rfl rfl ty26 rfl rfl) ?_
      refine AList.c0 rfl rfl (OpJ.store rfl rfl rfl rfl rfl ty31 rfl rfl) ?_
      refine AList.nil ?_
      refine AWp.ret ?_
      exact recC_none ⟨_, resV.many (vs := [.p .nilSlice, .p (.int .i64 8)]) rfl (⟨_, _, rfl, ⟨_, _, _, rfl, ty26, rfl⟩, ⟨_, _, rfl, ⟨_, _, _, rfl, ty31, rfl⟩, rfl⟩⟩), by rw [opn_bad hs hl hbad]; rfl⟩
    · skip
      have hok : crdsB l = true := by simpa using hc1
      refine AWp.skip ?_
      refine AWp.seq ?_
      refine AWp.region ?_
      refine AList.c 21 rfl rfl rfl (OpJ.load rfl rfl ty26 rfl) ?_
      refine AList.c0 rfl rfl (OpJ.store rfl rfl rfl rfl rfl ty26 rfl rfl) ?_
      refine AList.c0 rfl rfl (OpJ.store rfl rfl rfl rfl rfl ty31 rfl rfl) ?_
      refine AList.nil ?_
      refine AWp.ret ?_
      exact recC_none ⟨_, resV.many (vs := [.p (crdsV l), .p (.int .i64 0)]) rfl (⟨_, _, rfl, ⟨_, _, _, rfl, ty26, rfl⟩, ⟨_, _, rfl, ⟨_, _, _, rfl, ty31, rfl⟩, rfl⟩⟩), by rw [opn_ok hs hl hok]; rfl⟩
theorem openC_ok (s : Bs) : Pure Tryd.prog 23 [.str (sB s), (.func (.func 24) [] []), (.func (.func 16) [] [])] (.tuple [(opnP crdsL crdsB crdsV s).1, .int .i64 (opnP crdsL crdsB crdsV s).2]) := by
  rcases Nat.lt_or_ge 65536 s.length with h | h
  · exact openC_ok_big s h
  · exact openC_ok_small s h
end Go.Proofs.YtgpbpdepkagjiaaDoor.Bk
end

section
set_option linter.unusedVariables false
set_option maxRecDepth 100000
set_option maxHeartbeats 4000000
set_option linter.unusedSimpArgs false
namespace Go.Proofs.YtgpbpdepkagjiaaDoor.Bk
open Go.AF
theorem readCards_ok (s : Bs) : Pure Tryd.prog 7 [.str (sB s)] (.tuple [(rdC s).1, .int .i64 (rdC s).2]) := by
  refine Pure.start (N := 27) Tryd.func7 rfl rfl (Nat.le_of_ble_eq_true rfl) ?_
  refine AWp.seq ?_
  refine AWp.region ?_
  refine AList.c 2 rfl rfl rfl (OpJ.assign rfl rfl) ?_
  refine AList.c 3 rfl rfl rfl (OpJ.assign rfl rfl) ?_
  refine AList.nil ?_
  refine AWp.seq ?_
  refine AWp.region ?_
  refine AList.c 8 rfl rfl rfl (OpJ.move rfl rfl) ?_
  refine AList.c 9 rfl rfl rfl (OpJ.callP (openC_ok s) rfl rfl rfl rfl rf23) ?_
  refine AList.c 7 rfl rfl rfl (OpJ.move rfl rfl) ?_
  refine AList.c 10 rfl rfl rfl (OpJ.extract rfl rfl rfl) ?_
  refine AList.c 11 rfl rfl rfl (OpJ.extract rfl rfl rfl) ?_
  refine AList.c 4 rfl rfl rfl (OpJ.assign rfl rfl) ?_
  refine AList.c 5 rfl rfl rfl (OpJ.assign rfl rfl) ?_
  refine AList.nil ?_
  refine AWp.seq ?_
  refine AWp.seq ?_
  refine AWp.region ?_
  refine AList.c 12 rfl rfl rfl (OpJ.move rfl rfl) ?_
  refine AList.c 13 rfl rfl rfl (OpJ.neq rfl rfl rfl) ?_
  refine AList.nil ?_
  refine AWp.cond _ rfl (fun hc0 => ?_) (fun hc0 => ?_)
  · skip
    have hz : (opC s).2 ≠ 0 := by simpa using hc0
    refine AWp.seq ?_
    refine AWp.region ?_
    refine AList.c 14 rfl rfl rfl (OpJ.move rfl rfl) ?_
    refine AList.c 2 rfl rfl rfl (OpJ.assign rfl rfl) ?_
    refine AList.c 3 rfl rfl rfl (OpJ.assign rfl rfl) ?_
    refine AList.nil ?_
    refine AWp.ret ?_
    refine Fin.manyE (xs := [.nilSlice, .int .i64 (opC s).2]) rfl ⟨_, _, rfl, rfl, ⟨_, _, rfl, rfl, rfl⟩⟩ rfl ?_
    rw [rdC_e hz]
  · skip
    have hz : (opC s).2 = 0 := by simpa using hc0
    obtain ⟨hs, l, hl, hok, hE⟩ := opn_zero hz
    have hs0 := crds_ne hl
    rw [hE]
    dsimp only
    refine AWp.skip ?_
    refine AWp.seq ?_
    refine AWp.seq ?_
    refine AWp.region ?_
    refine AList.c 15 rfl rfl rfl (OpJ.move rfl rfl) ?_
    refine AList.c 16 rfl rfl rfl (OpJ.lenStr rfl rfl un9) ?_
    refine AList.c 17 rfl rfl rfl (OpJ.sub_ (m := ((s.length - 1 : Nat) : Int)) rfl rfl rfl ((i64ok ?_).trans ?_)) ?_
    · rw [sB_size]; omega
    · rw [sB_size]; omega
    refine AList.c 6 rfl rfl rfl (OpJ.assign rfl rfl) ?_
    refine AList.nil ?_
    refine AWp.seq ?_
    refine AWp.regionDraw 8 mixed (by kernel_rfl) (by decide) ?_
    refine AQuiet.cons 18 rfl rfl rfl (OpJ.move rfl rfl) ?_
    refine AQuiet.cons 19 rfl rfl rfl (OpJ.move rfl rfl) ?_
    refine AQuiet.cons 20 rfl rfl rfl (OpJ.strCut s 0 (s.length - 1) rfl rfl st9 rfl ⟨_, rfl⟩ (Nat.zero_le _) (by omega)) ?_
    refine AQuiet.cons 21 rfl rfl rfl (OpJ.callP (sum_ok _ (by rw [List.length_take]; omega)) rfl rfl rfl rfl rf21) ?_
    refine AQuiet.cons 22 rfl rfl rfl (OpJ.move rfl rfl) ?_
    refine AQuiet.cons 23 rfl rfl rfl (OpJ.move rfl rfl) ?_
    refine AQuiet.cons 24 rfl rfl rfl (OpJ.strIx s (s.length - 1) (gt 0 s (s.length - 1)) rfl rfl rfl st9 (by rw [List.getElem?_eq_getElem (by omega), gt_get 0 (s.length - 1) (by omega)])) ?_
    refine AQuiet.cons 25 rfl rfl rfl (OpJ.neq rfl rfl rfl) ?_
    refine AQuiet.nil ?_
    refine AList.nil ?_
    refine AWp.cond _ rfl (fun hc1 => ?_) (fun hc1 => ?_)
    · skip
      have hw : sumB (s.take (s.length - 1)) ≠ gt 0 s (s.length - 1) := (crd_sum (a := sumB (s.take (s.length - 1))) hc1).1 rfl
      refine AWp.seq ?_
      refine AWp.region ?_
      refine AList.c 2 rfl rfl rfl (OpJ.assign rfl rfl) ?_
      refine AList.c 3 rfl rfl rfl (OpJ.assign rfl rfl) ?_
      refine AList.nil ?_
      refine AWp.ret ?_
      refine Fin.manyE (xs := [.nilSlice, .int .i64 11]) rfl ⟨_, _, rfl, rfl, ⟨_, _, rfl, rfl, rfl⟩⟩ rfl ?_
      rw [rdC_no hz hw]
    · skip
      have hw : sumB (s.take (s.length - 1)) = gt 0 s (s.length - 1) := by have h := crd_sum (a := sumB (s.take (s.length - 1))) hc1; exact Decidable.byContradiction fun e => by have := h.2 e; cases this
      refine AWp.skip ?_
      refine AWp.seq ?_
      refine AWp.region ?_
      refine AList.c 26 rfl rfl rfl (OpJ.move rfl rfl) ?_
      refine AList.c 2 rfl rfl rfl (OpJ.assign rfl rfl) ?_
      refine AList.c 3 rfl rfl rfl (OpJ.assign rfl rfl) ?_
      refine AList.nil ?_
      refine AWp.ret ?_
      refine Fin.manyE (xs := [crdsV l, .int .i64 0]) rfl ⟨_, _, rfl, rfl, ⟨_, _, rfl, rfl, rfl⟩⟩ rfl ?_
      rw [rdC_ok hz hE hw]
end Go.Proofs.YtgpbpdepkagjiaaDoor.Bk
end
