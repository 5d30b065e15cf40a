/-
  What a reader takes.
  Spans, bytes and long numbers are taken.
  A slice is repeated.
  A report is read.
  Cards are read.
  A pack is read.
-/
import Derived.Test.YtgpbpdepkagjiaaDoorNqB
import Derived.Test.YtgpbpdepkagjiaaDoorNqP
import Derived.Test.YtgpbpdepkagjiaaDoorFaE
section
set_option linter.unusedVariables false
set_option maxRecDepth 100000
set_option maxHeartbeats 4000000
set_option linter.unusedSimpArgs false
namespace Go.Proofs.YtgpbpdepkagjiaaDoor.Bk
open Go.AF
theorem fail_ok : AFail Tryd.prog 44 [.int .i64 8] (.iface 112 (.agg [.int .i64 8])) := by
  refine ACallsP.start (N := 5) Tryd.func44 rfl rfl (Nat.le_of_ble_eq_true rfl) ?_
  refine AWp.region ?_
  refine AList.c 2 rfl rfl rfl (OpJ.move rfl rfl) ?_
  refine AList.c 3 rfl rfl rfl (OpJ.build rfl bd112 rfl rfl) ?_
  refine AList.c 4 rfl rfl rfl (OpJ.makeIface rfl rfl con112) ?_
  refine AList.panic rfl rfl rfl ?_
  exact ⟨_, rfl, rfl⟩
end Go.Proofs.YtgpbpdepkagjiaaDoor.Bk
end

section
set_option linter.unusedVariables false
set_option maxRecDepth 100000
set_option maxHeartbeats 4000000
set_option linter.unusedSimpArgs false
namespace Go.Proofs.YtgpbpdepkagjiaaDoor.Bk
open Go.AF
theorem octet_ok (r : Bs) : ACallsR Tryd.prog 115 (.iface 112 (.agg [.int .i64 8])) 43 [] (r) ((octP r).map fun x => (PV.int .i64 x.1, x.2)) := by
  refine ACallsP.start (N := 25) Tryd.func43 rfl rfl (Nat.le_of_ble_eq_true rfl) ?_
  refine AWp.seq ?_
  refine AWp.region ?_
  refine AList.c 2 rfl rfl rfl (OpJ.assign rfl rfl) ?_
  refine AList.nil ?_
  refine AWp.seq ?_
  refine AWp.seq ?_
  refine AWp.region ?_
  refine AList.c 4 rfl rfl rfl (OpJ.move rfl rfl) ?_
  refine AList.c 5 rfl rfl rfl (OpJ.nilCheck rfl rfl) ?_
  refine AList.c 6 rfl rfl rfl (OpJ.fieldAddr rfl rfl fd115_0 rfl) ?_
  refine AList.c 7 rfl rfl rfl (OpJ.load rfl rfl ty9 rfl) ?_
  refine AList.c 8 rfl rfl rfl (OpJ.strEq _ _ rfl rfl rfl) ?_
  refine AList.nil ?_
  refine AWp.cond _ rfl (fun hc0 => ?_) (fun hc0 => ?_)
  · skip
    have hno : ((octP r).map fun x => (PV.int .i64 x.1, x.2)) = none := by have h := of_decide_eq_true hc0; rw [show r = [] from h]; rfl
    refine AWp.region ?_
    refine AList.callFail 9 (fail_ok) rfl rfl rfl rfl rfl rfl rfl rf44 ⟨_, rfl, hno, rfl⟩
  · skip
    have hne := of_decide_eq_false hc0
    obtain ⟨b, t, rfl⟩ : ∃ b t, r = b :: t := by cases r with | nil => exact absurd rfl hne | cons b t => exact ⟨b, t, rfl⟩
    have hbl := b.toNat_lt
    refine AWp.skip ?_
    refine AWp.seq ?_
    refine AWp.region ?_
    refine AList.c 10 rfl rfl rfl (OpJ.move rfl rfl) ?_
    refine AList.c 11 rfl rfl rfl (OpJ.nilCheck rfl rfl) ?_
    refine AList.c 12 rfl rfl rfl (OpJ.fieldAddr rfl rfl fd115_0 rfl) ?_
    refine AList.c 13 rfl rfl rfl (OpJ.load rfl rfl ty9 rfl) ?_
    refine AList.c 14 rfl rfl rfl (OpJ.strIx (b :: t) 0 b rfl rfl rfl st9 rfl) ?_
    refine AList.c 3 rfl rfl rfl (OpJ.assign rfl rfl) ?_
    refine AList.nil ?_
    refine AWp.seq ?_
    refine AWp.region ?_
    refine AList.c 15 rfl rfl rfl (OpJ.move rfl rfl) ?_
    refine AList.c 16 rfl rfl rfl (OpJ.move rfl rfl) ?_
    refine AList.c 17 rfl rfl rfl (OpJ.nilCheck rfl rfl) ?_
    refine AList.c 18 rfl rfl rfl (OpJ.fieldAddr rfl rfl fd115_0 rfl) ?_
    refine AList.c 19 rfl rfl rfl (OpJ.load rfl rfl ty9 rfl) ?_
    refine AList.c 20 rfl rfl rfl (OpJ.strCut (b :: t) 1 (t.length + 1) rfl rfl st9 ⟨_, rfl⟩ rfl (by omega) (Nat.le_refl _)) ?_
    refine AList.c 21 rfl rfl rfl (OpJ.nilCheck rfl rfl) ?_
    refine AList.c 22 rfl rfl rfl (OpJ.fieldAddr rfl rfl fd115_0 rfl) ?_
    refine AList.c0 rfl rfl (OpJ.store rfl rfl rfl rfl rfl ty9 rfl rfl) ?_
    refine AList.nil ?_
    refine AWp.seq ?_
    refine AWp.region ?_
    refine AList.c 23 rfl rfl rfl (OpJ.move rfl rfl) ?_
    refine AList.c 24 rfl rfl rfl (OpJ.convInt rfl rfl (by rw [un5]; rfl) un3 (i64ok ?_)) ?_
    · omega
    refine AList.c 2 rfl rfl rfl (OpJ.assign rfl rfl) ?_
    refine AList.nil ?_
    refine AWp.ret ?_
    exact FinOP.one rfl rfl ⟨_, _, rfl, rfl, by show [Blk.cells [.p (.str (sB (t.take (t.length + 1 - 1))))] _] = _; rw [List.take_of_length_le (by omega)]; rfl⟩
theorem longR_ok (r : Bs) : ACallsR Tryd.prog 115 (.iface 112 (.agg [.int .i64 8])) 45 [] (r) ((longP r).map fun x => (PV.int .i64 x.1, x.2)) := by
  refine ACallsP.start (N := 27) Tryd.func45 rfl rfl (Nat.le_of_ble_eq_true rfl) ?_
  refine AWp.seq ?_
  refine AWp.region ?_
  refine AList.c 2 rfl rfl rfl (OpJ.assign rfl rfl) ?_
  refine AList.nil ?_
  refine AWp.seq ?_
  refine AWp.seq ?_
  refine AWp.region ?_
  refine AList.c 3 rfl rfl rfl (OpJ.assign rfl rfl) ?_
  refine AList.nil ?_
  refine AWp.block ?_
  refine AWp.loopHL [0] (fun g => [(3, .p (.int .i64 ((7 * g.1 : Nat) : Int))), (2, .p (.int .i64 ((g.2.1 : Nat) : Int)))]) (fun g => [(rB 115 (g.2.2))]) (fun g => g.1 ≤ 4 ∧ g.2.1 < 2 ^ (7 * g.1) ∧ longG 4 1 0 r = longG (4 - g.1) (2 ^ (7 * g.1)) g.2.1 g.2.2) (fun g => 4 - g.1) (0, 0, r) ⟨Nat.zero_le _, (by show 0 < 2 ^ 0; decide), rfl⟩ (To.sub (Sub.chk (Sub.cons rfl (Sub.cons rfl (Sub.nil))))) (fun g hg => ?_)
  obtain ⟨j, n, q⟩ := g
  obtain ⟨hj, hn, hlg⟩ := hg
  dsimp only at hj hn hlg ⊢
  refine AWp.seq ?_
  refine AWp.seq ?_
  refine AWp.region ?_
  refine AList.c 5 rfl rfl rfl (OpJ.move rfl rfl) ?_
  refine AList.c 6 rfl rfl rfl (OpJ.lss rfl rfl rfl) ?_
  refine AList.nil ?_
  refine AWp.cond _ rfl (fun hc0 => ?_) (fun hc0 => ?_)
  · skip
    have hj4 : j < 4 := by have h := of_decide_eq_true hc0; omega
    refine AWp.skip ?_
    refine AWp.seq ?_
    refine AWp.block ?_
    refine AWp.seq ?_
    refine AWp.region ?_
    refine AList.c 9 rfl rfl rfl (OpJ.move rfl rfl) ?_
    refine AList.callR 10 0 (octet_ok q) rfl rfl rfl rfl rfl rfl rfl rfl rf43 (fun h => ⟨_, rfl, lg_none hj4 hlg (Option.map_eq_none_iff.1 h), rfl⟩) (fun q0 q1 hq => ?_)
    obtain ⟨⟨c0, r1⟩, ho, hq2⟩ := Option.map_eq_some_iff.1 hq
    cases hq2
    obtain ⟨c, rfl, hcl, hqe⟩ := oct_some ho
    subst hqe
    have hp2 := pow7 hj4
    refine AList.c 4 rfl rfl rfl (OpJ.assign rfl rfl) ?_
    refine AList.nil ?_
    refine AWp.seq ?_
    refine AWp.region ?_
    refine AList.c 11 rfl rfl rfl (OpJ.move rfl rfl) ?_
    refine AList.c 12 rfl rfl rfl (OpJ.move rfl rfl) ?_
    refine AList.c 13 rfl rfl rfl (OpJ.cst (OpJ.andN c 127 rfl rfl rfl (by show _ ≤ (9223372036854775807 : Int); omega) (by decide)) (congrArg Nat.cast (and127 ⟨c, hcl⟩))) ?_
    refine AList.c 14 rfl rfl rfl (OpJ.move rfl rfl) ?_
    refine AList.c 15 rfl rfl rfl (OpJ.shlN (c % 128) (7 * j) rfl rfl rfl (by show 7 * j ≤ 64; omega) (by show _ ≤ (9223372036854775807 : Int); exact shl_fit hj4)) ?_
    refine AList.c 16 rfl rfl rfl (OpJ.cst (OpJ.orN n (c % 128 * 2 ^ (7 * j)) rfl rfl rfl (by show _ ≤ (9223372036854775807 : Int); have := pow7 hj4; omega) (by show _ ≤ (9223372036854775807 : Int); exact shl_fit hj4) (by rw [or_sh hn]; show _ ≤ (9223372036854775807 : Int); exact or_fit hj4 hn)) (congrArg Nat.cast (or_sh hn))) ?_
    refine AList.c 2 rfl rfl rfl (OpJ.assign rfl rfl) ?_
    refine AList.nil ?_
    refine AWp.seq ?_
    refine AWp.region ?_
    refine AList.c 17 rfl rfl rfl (OpJ.move rfl rfl) ?_
    refine AList.c 18 rfl rfl rfl (OpJ.lss rfl rfl rfl) ?_
    refine AList.nil ?_
    refine AWp.cond _ rfl (fun hc1 => ?_) (fun hc1 => ?_)
    · skip
      have hcc : c < 128 := by have h := of_decide_eq_true hc1; omega
      refine AWp.seq ?_
      refine AWp.seq ?_
      refine AWp.region ?_
      refine AList.c 19 rfl rfl rfl (OpJ.move rfl rfl) ?_
      refine AList.c 20 rfl rfl rfl (OpJ.eql rfl rfl rfl) ?_
      refine AList.c 21 rfl rfl rfl (OpJ.move rfl rfl) ?_
      refine AList.g 22 21 rfl rfl rfl rfl rfl rfl rfl [(3, _)] (fun h => And.intro (.inl rfl) (trivial)) (fun h => (OpJ.move rfl rfl)) ?_
      refine AList.g 23 21 rfl rfl rfl rfl rfl rfl rfl [(22, _)] (fun h => And.intro (.inr ⟨_, rfl, h⟩) (trivial)) (fun h => (OpJ.gtr rfl rfl rfl)) ?_
      refine AList.c 24 rfl rfl rfl (OpJ.and_ rfl rfl rfl ?_) ?_
      · first | (intro h; rw [h]; rfl) | (intro h; simp_all)
      refine AList.nil ?_
      refine AWp.cond _ rfl (fun hc2 => ?_) (fun hc2 => ?_)
      · skip
        have hno : ((longP r).map fun x => (PV.int .i64 x.1, x.2)) = none := lg_zero hj4 hcc hcl hlg hc2
        refine AWp.exit ?_
        refine AWp.seq ?_
        refine AWp.region ?_
        refine AList.callFail 26 (fail_ok) rfl rfl rfl rfl rfl rfl rfl rf44 ⟨_, rfl, hno, rfl⟩
      · skip
        have hsome := lg_done hj4 hcc hcl hlg hc2
        refine AWp.skip ?_
        refine AWp.seq ?_
        refine AWp.region ?_
        refine AList.c 25 rfl rfl rfl (OpJ.move rfl rfl) ?_
        refine AList.c 2 rfl rfl rfl (OpJ.assign rfl rfl) ?_
        refine AList.nil ?_
        refine AWp.ret ?_
        dsimp only [AX.inBlock, AX.then, FinOP]
        refine FinO.one rfl rfl ⟨_, _, hsome, ?_, rfl⟩
        rw [Nat.mod_eq_of_lt hcc]
    · skip
      have hcc : 128 ≤ c := by have h := of_decide_eq_false hc1; omega
      refine AWp.skip ?_
      refine AWp.region ?_
      refine AList.c 7 rfl rfl rfl (OpJ.move rfl rfl) ?_
      refine AList.c 8 rfl rfl rfl (OpJ.add rfl rfl rfl (i64ok ?_)) ?_
      · omega
      refine AList.c 3 rfl rfl rfl (OpJ.assign rfl rfl) ?_
      refine AList.nil ?_
      refine ⟨(j + 1, n + (c - 128) * 2 ^ (7 * j), r1), ?_, ?_, ?_⟩
      · exact ⟨by show j + 1 ≤ 4; omega, lg_lt hcl hcc hn, by rw [hlg]; exact lg_more hj4 hcc⟩
      · show 4 - (j + 1) < 4 - j
        omega
      exact To.done [0] rfl (Sub.cons (by show some (V.p (.int .i64 ((7 * j : Nat) + 7 : Int))) = some (V.p (.int .i64 ((7 * (j + 1) : Nat) : Int))); congr 3 <;> omega) (Sub.cons (by show some (V.p (.int .i64 ((n + (c % 128) * 2 ^ (7 * j) : Nat) : Int))) = _; rw [show c % 128 = c - 128 by omega]) (by repeat (first | exact Sub.nil | refine Sub.cons rfl ?_)))) rfl
  · skip
    have hno : ((longP r).map fun x => (PV.int .i64 x.1, x.2)) = none := lg_end hj (by have h := of_decide_eq_false hc0; omega) hlg
    refine AWp.exit ?_
    refine AWp.seq ?_
    refine AWp.region ?_
    refine AList.callFail 26 (fail_ok) rfl rfl rfl rfl rfl rfl rfl rf44 ⟨_, rfl, hno, rfl⟩
end Go.Proofs.YtgpbpdepkagjiaaDoor.Bk
end

section
set_option linter.unusedVariables false
set_option maxRecDepth 100000
set_option maxHeartbeats 4000000
set_option linter.unusedSimpArgs false
namespace Go.Proofs.YtgpbpdepkagjiaaDoor.Bk
open Go.AF
open Go.Proofs
end Go.Proofs.YtgpbpdepkagjiaaDoor.Bk
end

section
set_option linter.unusedVariables false
set_option maxRecDepth 100000
set_option maxHeartbeats 4000000
set_option linter.unusedSimpArgs false
namespace Go.Proofs.YtgpbpdepkagjiaaDoor.Bk
open Go.AF
end Go.Proofs.YtgpbpdepkagjiaaDoor.Bk
end

section
set_option linter.unusedVariables false
set_option maxRecDepth 100000
set_option maxHeartbeats 4000000
set_option linter.unusedSimpArgs false
namespace Go.Proofs.YtgpbpdepkagjiaaDoor.Bk
open Go.AF
theorem cards_ok (r : Bs) (hr : r.length ≤ 65536) : ACallsR Tryd.prog 115 (.iface 112 (.agg [.int .i64 8])) 24 [] (r) ((crdsR r).map fun x => (crdsV x.1, x.2)) := by
  refine ACallsP.start (N := 60) Tryd.func24 rfl rfl (Nat.le_of_ble_eq_true rfl) ?_
  refine AWp.seq ?_
  refine AWp.region ?_
  refine AList.c 2 rfl rfl rfl (OpJ.assign rfl rfl) ?_
  refine AList.nil ?_
  refine AWp.seq ?_
  refine AWp.region ?_
  refine AList.c 7 rfl rfl rfl (OpJ.move rfl rfl) ?_
  refine AList.callR 8 0 (octet_ok r) rfl rfl rfl rfl rfl rfl rfl rfl rf43 (fun h => ⟨_, rfl, (by have hz := Option.map_eq_none_iff.1 h; unfold crdsR; simp only [show _ = none from hz, Option.bind_some, Option.bind_none]; rfl), rfl⟩) (fun q0 q1 hq => ?_)
  obtain ⟨⟨a, r1⟩, h1, hq2⟩ := Option.map_eq_some_iff.1 hq
  cases hq2
  obtain ⟨a, rfl, ha, e1⟩ := oct_some2 h1
  refine AList.c 9 rfl rfl rfl (OpJ.convInt rfl rfl (by rw [un3]; rfl) un5 (u8ok ?_)) ?_
  · omega
  refine AList.c 10 rfl rfl rfl (OpJ.move rfl rfl) ?_
  refine AList.callR 11 0 (octet_ok r1) rfl rfl rfl rfl rfl rfl rfl rfl rf43 (fun h => ⟨_, rfl, (by have hz := Option.map_eq_none_iff.1 h; unfold crdsR; simp only [h1, show _ = none from hz, Option.bind_some, Option.bind_none]; rfl), rfl⟩) (fun q0 q1 hq => ?_)
  obtain ⟨⟨b, r2⟩, h2, hq2⟩ := Option.map_eq_some_iff.1 hq
  cases hq2
  obtain ⟨b, rfl, hb, e2⟩ := oct_some2 h2
  refine AList.c 12 rfl rfl rfl (OpJ.convInt rfl rfl (by rw [un3]; rfl) un5 (u8ok ?_)) ?_
  · omega
  refine AList.c 13 rfl rfl rfl (OpJ.move rfl rfl) ?_
  refine AList.callR 14 0 (octet_ok r2) rfl rfl rfl rfl rfl rfl rfl rfl rf43 (fun h => ⟨_, rfl, (by have hz := Option.map_eq_none_iff.1 h; unfold crdsR; simp only [h1, h2, show _ = none from hz, Option.bind_some, Option.bind_none]; rfl), rfl⟩) (fun q0 q1 hq => ?_)
  obtain ⟨⟨c, r3⟩, h3, hq2⟩ := Option.map_eq_some_iff.1 hq
  cases hq2
  obtain ⟨c, rfl, hc, e3⟩ := oct_some2 h3
  refine AList.c 15 rfl rfl rfl (OpJ.convInt rfl rfl (by rw [un3]; rfl) un5 (u8ok ?_)) ?_
  · omega
  refine AList.c 16 rfl rfl rfl (OpJ.build rfl bd64 rfl rfl) ?_
  refine AList.c 3 rfl rfl rfl (OpJ.allocOwn rfl zr64 rfl) ?_
  refine AList.c0 rfl rfl (OpJ.store rfl rfl rfl rfl rfl ty64 rfl rfl) ?_
  refine AList.nil ?_
  refine AWp.seq ?_
  refine AWp.region ?_
  refine AList.c 17 rfl rfl rfl (OpJ.move rfl rfl) ?_
  refine AList.callR 18 0 (octet_ok r3) rfl rfl rfl rfl rfl rfl rfl rfl rf43 (fun h => ⟨_, rfl, (by have hz := Option.map_eq_none_iff.1 h; unfold crdsR; simp only [h1, h2, h3, show _ = none from hz, Option.bind_some, Option.bind_none]; rfl), rfl⟩) (fun q0 q1 hq => ?_)
  obtain ⟨⟨m, r4⟩, h4, hq2⟩ := Option.map_eq_some_iff.1 hq
  cases hq2
  obtain ⟨m, rfl, hm, e4⟩ := oct_some2 h4
  refine AList.c 4 rfl rfl rfl (OpJ.assign rfl rfl) ?_
  refine AList.nil ?_
  refine AWp.seq ?_
  refine AWp.seq ?_
  refine AWp.regionDraw 7 mixed (by kernel_rfl) (by decide) ?_
  refine AQuiet.cons 19 rfl rfl rfl (OpJ.load rfl rfl ty64 rfl) ?_
  refine AQuiet.cons 20 rfl rfl rfl (OpJ.callP (head_ok) rfl rfl rfl rfl rf17) ?_
  refine AQuiet.cons 21 rfl rfl rfl (OpJ.eqAgg (d := 8) rfl (.inr rfl) rfl rfl (by decide) eq64 ty64 rfl eg64 rfl) ?_
  refine AQuiet.cons 22 rfl rfl rfl (OpJ.move rfl rfl) ?_
  refine AQuiet.guard 23 22 rfl rfl rfl rfl rfl rfl rfl [(4, _)] (fun h => And.intro (.inl rfl) (trivial)) (fun h => (OpJ.move rfl rfl)) ?_
  refine AQuiet.guard 24 22 rfl rfl rfl rfl rfl rfl rfl [(23, _)] (fun h => And.intro (.inr ⟨_, rfl, h⟩) (trivial)) (fun h => (OpJ.gtr rfl rfl rfl)) ?_
  refine AQuiet.cons 25 rfl rfl rfl (OpJ.or_ rfl rfl rfl ?_) ?_
  · first | (intro h; rw [h]; rfl) | (intro h; simp_all)
  refine AQuiet.nil ?_
  refine AList.nil ?_
  refine AWp.cond _ rfl (fun hc0 => ?_) (fun hc0 => ?_)
  · skip
    have hno : ((crdsR r).map fun x => (crdsV x.1, x.2)) = none := crds_head h1 h2 h3 h4 (fun h => by have := (crd_hd (a := (a : Int)) (b := (b : Int)) (c := (c : Int)) (m := (m : Int)) hc0).1 h; cases this)
    refine AWp.region ?_
    refine AList.callFail 26 (fail_ok) rfl rfl rfl rfl rfl rfl rfl rf44 ⟨_, rfl, hno, rfl⟩
  · skip
    obtain ⟨hh, hm40⟩ := (crd_hd (a := (a : Int)) (b := (b : Int)) (c := (c : Int)) (m := (m : Int)) hc0).2 rfl
    have hm40 : m ≤ 40 := by omega
    refine AWp.skip ?_
    refine AWp.seq ?_
    refine AWp.norm [0] [(0, _), (2, _), (4, _)] [(rB 115 (r4))] rfl (by repeat (first | exact Sub.nil | refine Sub.cons rfl ?_)) rfl ?_
    refine AWp.region ?_
    refine AList.c 5 rfl rfl rfl (OpJ.assign rfl rfl) ?_
    refine AList.nil ?_
    refine AWp.seq ?_
    refine AWp.seq ?_
    refine AWp.region ?_
    refine AList.c 27 rfl rfl rfl (OpJ.move rfl rfl) ?_
    refine AList.c 28 rfl rfl rfl (OpJ.move rfl rfl) ?_
    refine AList.nil ?_
    refine AWp.block ?_
    refine AWp.loopHL [0, 27, 51, 53, 54, 55, 56, 57, 59] (fun g => [(28, .p (.int .i64 ((g.1.length : Nat) : Int))), (5, .p (.int .i64 g.2.1)), (2, accV 1 g.1.length)]) (fun g => [(rB 115 (g.2.2)), accB ((g.1.flatMap Crd.cells).map .p) 30 g.1.length]) (fun g => g.1.length ≤ m ∧ 0 ≤ g.2.1 ∧ g.2.1 ≤ 268435456 * (g.1.length : Int) ∧ CrdI r m g.2.1 g.1 g.2.2) (fun g => m - g.1.length) ([], 0, r4) ⟨Nat.zero_le _, Int.le_refl _, Int.le_refl _, crdI_0 h1 h2 h3 h4 hh hm40⟩ (To.pad.trans (To.sub (Sub.chk (Sub.cons rfl (Sub.cons rfl (Sub.cons rfl Sub.nil)))))) (fun g hg => ?_)
    obtain ⟨acc, next, q⟩ := g
    obtain ⟨hq, hn0, hn1, hI⟩ := hg
    dsimp only at hq hn0 hn1 hI ⊢
    refine AWp.seq ?_
    refine AWp.region ?_
    refine AList.c 29 rfl rfl rfl (OpJ.lss rfl rfl rfl) ?_
    refine AList.nil ?_
    refine AWp.seq ?_
    refine AWp.cond _ rfl (fun hc1 => ?_) (fun hc1 => ?_)
    · skip
      have hk0 : acc.length < m := by have h := of_decide_eq_true hc1; omega
      refine AWp.skip ?_
      refine AWp.seq ?_
      refine AWp.block ?_
      refine AWp.seq ?_
      refine AWp.region ?_
      refine AList.c 30 rfl rfl rfl (OpJ.move rfl rfl) ?_
      refine AList.c 31 rfl rfl rfl (OpJ.move rfl rfl) ?_
      refine AList.callR 32 0 (longR_ok q) rfl rfl rfl rfl rfl rfl rfl rfl rf45 (fun h => ⟨_, rfl, (crdI_fail hI hk0 (by have hz := Option.map_eq_none_iff.1 h; unfold crdR; simp only [show _ = none from hz, Option.bind_some, Option.bind_none, Option.map_none])), rfl⟩) (fun q0 q1 hq => ?_)
      obtain ⟨⟨x, q1⟩, k1, hq2⟩ := Option.map_eq_some_iff.1 hq
      cases hq2
      obtain ⟨x, rfl, hx, f1⟩ := longP_spec k1
      refine AList.c 33 rfl rfl rfl (OpJ.add rfl rfl rfl (i64ok ?_)) ?_
      · omega
      refine AList.c 34 rfl rfl rfl (OpJ.move rfl rfl) ?_
      refine AList.callR 35 0 (longR_ok q1) rfl rfl rfl rfl rfl rfl rfl rfl rf45 (fun h => ⟨_, rfl, (crdI_fail hI hk0 (by have hz := Option.map_eq_none_iff.1 h; unfold crdR; simp only [k1, show _ = none from hz, Option.bind_some, Option.bind_none, Option.map_none])), rfl⟩) (fun q0 q1 hq => ?_)
      obtain ⟨⟨y, q2⟩, k2, hq2⟩ := Option.map_eq_some_iff.1 hq
      cases hq2
      obtain ⟨y, rfl, hy, f2⟩ := longP_spec k2
      refine AList.c 36 rfl rfl rfl (OpJ.move rfl rfl) ?_
      refine AList.callR 37 0 (octet_ok q2) rfl rfl rfl rfl rfl rfl rfl rfl rf43 (fun h => ⟨_, rfl, (crdI_fail hI hk0 (by have hz := Option.map_eq_none_iff.1 h; unfold crdR; simp only [k1, k2, show _ = none from hz, Option.bind_some, Option.bind_none, Option.map_none])), rfl⟩) (fun q0 q1 hq => ?_)
      obtain ⟨⟨z, q3⟩, k3, hq2⟩ := Option.map_eq_some_iff.1 hq
      cases hq2
      obtain ⟨z, rfl, hz, f3⟩ := oct_some2 k3
      refine AList.c 38 rfl rfl rfl (OpJ.move rfl rfl) ?_
      refine AList.callR 39 0 (octet_ok q3) rfl rfl rfl rfl rfl rfl rfl rfl rf43 (fun h => ⟨_, rfl, (crdI_fail hI hk0 (by have hz := Option.map_eq_none_iff.1 h; unfold crdR; simp only [k1, k2, k3, show _ = none from hz, Option.bind_some, Option.bind_none, Option.map_none])), rfl⟩) (fun q0 q1 hq => ?_)
      obtain ⟨⟨u, q4⟩, k4, hq2⟩ := Option.map_eq_some_iff.1 hq
      cases hq2
      obtain ⟨u, rfl, hu, f4⟩ := oct_some2 k4
      refine AList.c 40 rfl rfl rfl (OpJ.move rfl rfl) ?_
      refine AList.callR 41 0 (longR_ok q4) rfl rfl rfl rfl rfl rfl rfl rfl rf45 (fun h => ⟨_, rfl, (crdI_fail hI hk0 (by have hz := Option.map_eq_none_iff.1 h; unfold crdR; simp only [k1, k2, k3, k4, show _ = none from hz, Option.bind_some, Option.bind_none, Option.map_none])), rfl⟩) (fun q0 q1 hq => ?_)
      obtain ⟨⟨v, q5⟩, k5, hq2⟩ := Option.map_eq_some_iff.1 hq
      cases hq2
      obtain ⟨v, rfl, hv, f5⟩ := longP_spec k5
      have hsk := crdR_some (next := next) k1 k2 k3 k4 k5
      refine AList.c 42 rfl rfl rfl (OpJ.build rfl bd30 rfl rfl) ?_
      refine AList.c 6 rfl rfl rfl (OpJ.allocOwn rfl zr30 rfl) ?_
      refine AList.c0 rfl rfl (OpJ.store rfl rfl rfl rfl rfl ty30 rfl rfl) ?_
      refine AList.nil ?_
      refine AWp.seq ?_
      refine AWp.region ?_
      refine AList.c 43 rfl rfl rfl (OpJ.fieldAddr rfl rfl fd30_0 rfl) ?_
      refine AList.c 44 rfl rfl rfl (OpJ.load rfl rfl ty3 rfl) ?_
      refine AList.c 45 rfl rfl rfl (OpJ.add rfl rfl rfl (i64ok ?_)) ?_
      · omega
      refine AList.c 5 rfl rfl rfl (OpJ.assign rfl rfl) ?_
      refine AList.nil ?_
      refine AWp.region ?_
      refine AList.c 46 rfl rfl rfl (OpJ.move rfl rfl) ?_
      refine AList.c 47 rfl rfl rfl (OpJ.load (v := .p (.agg (Crd.mk (next + x) y z u v).cells)) rfl rfl ty30 rfl) ?_
      refine AList.c 48 rfl rfl rfl (OpJ.buildImm rfl slz26 (by decide) rfl rfl rfl) ?_
      refine AList.c 49 rfl rfl rfl (OpJ.appendAcc rfl rfl rfl slz26 sl26 rfl ?_ rfl (by decide) rfl by30 (by decide) ?_) ?_
      · rw [List.length_map, Go.AF.flat_len (c := 5) (fun _ => rfl)]; rfl
      · show (2 * (acc.length + 1) + 192) * 40 ≤ 281474976710656; omega
      refine AList.c 2 rfl rfl rfl (OpJ.assign rfl rfl) ?_
      refine AList.nil ?_
      refine AWp.region ?_
      refine AList.c 50 rfl rfl rfl (OpJ.add (m := ((acc.length + 1 : Nat) : Int)) rfl rfl rfl ((i64ok ?_).trans ?_)) ?_
      · omega
      · omega
      refine AList.c 28 rfl rfl rfl (OpJ.move rfl rfl) ?_
      refine AList.nil ?_
      refine ⟨(acc ++ [⟨next + x, y, z, u, v⟩], next + x + 1, q5), ?_, ?_, ?_⟩
      · exact ⟨by rw [List.length_append]; exact hk0, by show 0 ≤ next + x + 1; omega, by rw [List.length_append]; show next + x + 1 ≤ 268435456 * ((acc.length + 1 : Nat) : Int); omega, crdI_step hI hk0 hsk⟩
      · show m - (acc ++ [_]).length < m - acc.length
        rw [List.length_append]
        show m - (acc.length + 1) < _
        omega
      have eLn : (acc ++ [Crd.mk (next + x) y z u v]).length = acc.length + 1 := by rw [List.length_append]; rfl
      have eL : (acc ++ [Crd.mk (next + x) y z u v]).flatMap Crd.cells = acc.flatMap Crd.cells ++ (Crd.mk (next + x) y z u v).cells := by rw [List.flatMap_append]; simp
      dsimp only
      rw [eLn, eL]
      refine To.done [0, 3] rfl (by repeat (first | exact Sub.nil | refine Sub.cons rfl ?_)) ?_
      show (_ : Blk) :: [_] = _ :: [_]
      refine List.cons_eq_cons.2 ⟨rfl, ?_⟩
      show [Blk.row (renL _ (_ ++ _)) _] = [Blk.row _ _]
      rw [renL_app, renL_pure, List.map_append]
      rfl
    · skip
      have hk0 : acc.length = m := by have h := of_decide_eq_false hc1; omega
      refine AWp.to (To.accD 2 1 acc.length (xs := acc.flatMap Crd.cells) rfl rfl (fun h => by rw [List.length_eq_zero_iff.1 h]; rfl)) ?_
      refine AWp.exit ?_
      refine AWp.seq ?_
      refine AWp.region ?_
      refine AList.c 51 rfl rfl rfl (OpJ.move rfl rfl) ?_
      refine AList.callR 52 0 (octet_ok q) rfl rfl rfl rfl rfl rfl rfl rfl rf43 (fun h => ⟨_, rfl, (by have hz := Option.map_eq_none_iff.1 h; rw [crdI_end hI hk0]; unfold crdsE; simp only [show octP q = none from hz]; rfl), rfl⟩) (fun q0 q1 hq => ?_)
      obtain ⟨⟨s, q1⟩, k1, hq2⟩ := Option.map_eq_some_iff.1 hq
      cases hq2
      refine AList.nil ?_
      refine AWp.seq ?_
      refine AWp.seq ?_
      refine AWp.region ?_
      refine AList.c 53 rfl rfl rfl (OpJ.move rfl rfl) ?_
      refine AList.c 54 rfl rfl rfl (OpJ.nilCheck rfl rfl) ?_
      refine AList.c 55 rfl rfl rfl (OpJ.fieldAddr rfl rfl fd115_0 rfl) ?_
      refine AList.c 56 rfl rfl rfl (OpJ.load rfl rfl ty9 rfl) ?_
      refine AList.c 57 rfl rfl rfl (OpJ.strNe _ _ rfl rfl rfl) ?_
      refine AList.nil ?_
      refine AWp.cond _ rfl (fun hc2 => ?_) (fun hc2 => ?_)
      · skip
        have hno : ((crdsR r).map fun x => (crdsV x.1, x.2)) = none := by rw [crdI_end hI hk0, crdsE_no k1 (by simpa using hc2)]; rfl
        refine AWp.region ?_
        refine AList.callFail 58 (fail_ok) rfl rfl rfl rfl rfl rfl rfl rf44 ⟨_, rfl, hno, rfl⟩
      · skip
        have hq1 : q1 = [] := by simpa using hc2
        subst hq1
        have he := crdsE_yes (acc := acc) k1 rfl
        refine AWp.skip ?_
        refine AWp.seq ?_
        refine AWp.region ?_
        refine AList.c 59 rfl rfl rfl (OpJ.move rfl rfl) ?_
        refine AList.c 2 rfl rfl rfl (OpJ.assign rfl rfl) ?_
        refine AList.nil ?_
        refine AWp.norm [0] [(2, _)] [(rB 115 ([]))] rfl (by repeat (first | exact Sub.nil | refine Sub.cons rfl ?_)) rfl ?_
        refine AWp.ret ?_
        exact FinOP.one rfl rfl ⟨_, _, by rw [crdI_end hI hk0, he]; rfl, rfl, rfl⟩
end Go.Proofs.YtgpbpdepkagjiaaDoor.Bk
end

section
set_option linter.unusedVariables false
set_option maxRecDepth 100000
set_option maxHeartbeats 4000000
set_option linter.unusedSimpArgs false
namespace Go.Proofs.YtgpbpdepkagjiaaDoor.Bk
open Go.AF
end Go.Proofs.YtgpbpdepkagjiaaDoor.Bk
end
