/-
  Reports are written.
  Cards are written.
  The items of colours.
  Packs are written.
-/
import Derived.Test.YtplofbjppcbchaaDoorMzVA
import Derived.Test.YtplofbjppcbchaaDoorMzVP
section
set_option linter.unusedVariables false
set_option maxRecDepth 100000
set_option maxHeartbeats 4000000
set_option linter.unusedSimpArgs false
namespace Go.Proofs.YtplofbjppcbchaaDoor
open Go.AF
theorem writeReports_ok (l : List Rpt) (hl : l.length ≤ bigN) (hs : ∀ r ∈ l, r.strokes.length ≤ bigN) : Pure Tryd.prog 6 [rptsV l] (.tuple [.str (sB (wrR l).1), .int .i64 (wrR l).2]) := by
  have hl2 := hl
  unfold bigN at hl2
  refine Pure.start (N := 61) Tryd.func6 rfl rfl (Nat.le_of_ble_eq_true rfl) ?_
  refine AWp.seq ?_
  refine AWp.region ?_
  refine AList.c 2 rfl rfl rfl (OpJ.assign rfl rfl) ?_
  refine AList.c 3 rfl rfl rfl (OpJ.assign rfl rfl) ?_
  refine AList.nil ?_
  refine AWp.seq ?_
  refine AWp.seq ?_
  refine AWp.region ?_
  refine AList.c 10 rfl rfl rfl (OpJ.move rfl rfl) ?_
  refine AList.c 11 rfl rfl rfl (OpJ.lenSlice rfl rfl sl22 rfl) ?_
  refine AList.c 12 rfl rfl rfl (OpJ.move rfl rfl) ?_
  refine AList.c 13 rfl rfl rfl (OpJ.callP (areReports_ok l hl hs) rfl rfl rfl rfl rf20) ?_
  refine AList.c 14 rfl rfl rfl (OpJ.callP (check_ok _ _ _) rfl rfl rfl rfl rf19) ?_
  refine AList.c 4 rfl rfl rfl (OpJ.assign rfl rfl) ?_
  refine AList.nil ?_
  refine AWp.seq ?_
  refine AWp.region ?_
  refine AList.c 15 rfl rfl rfl (OpJ.move rfl rfl) ?_
  refine AList.c 16 rfl rfl rfl (OpJ.neq rfl rfl rfl) ?_
  refine AList.nil ?_
  refine AWp.cond _ rfl (fun hc0 => ?_) (fun hc0 => ?_)
  · skip
    have hne : ¬ chkN l.length 20 (rptsB l) = 0 := by simpa using hc0
    refine AWp.seq ?_
    refine AWp.region ?_
    refine AList.c 17 rfl rfl rfl (OpJ.move rfl rfl) ?_
    refine AList.c 2 rfl rfl rfl (OpJ.assign rfl rfl) ?_
    refine AList.c 3 rfl rfl rfl (OpJ.assign rfl rfl) ?_
    refine AList.nil ?_
    refine AWp.ret ?_
    refine Fin.manyE (xs := [.str (sB []), .int .i64 (chkN l.length 20 (rptsB l))]) rfl ⟨_, _, rfl, rfl, ⟨_, _, rfl, rfl, rfl⟩⟩ rfl ?_
    rw [wrR_no hne]
  · skip
    have hz : chkN l.length 20 (rptsB l) = 0 := by simpa using hc0
    obtain ⟨hl20, hv⟩ := chk_zero hz
    have hB : (l.flatMap rptT).length ≤ 22200 := rptsT_len hv (by omega)
    have hall := rise_all hv (by decide)
    refine AWp.skip ?_
    refine AWp.seq ?_
    refine AWp.region ?_
    refine AList.c 5 rfl rfl rfl (OpJ.allocOwn rfl zr62 rfl) ?_
    refine AList.nil ?_
    refine AWp.seq ?_
    refine AWp.seq ?_
    refine AWp.to To.pad ?_
    show AWp _ _ _ _ _ _ _ [(wC 62 0 1 ([])), (wF 5 ([]))]
    refine AWp.region ?_
    refine AList.c 18 rfl rfl rfl (OpJ.move rfl rfl) ?_
    refine AList.c 19 rfl rfl rfl (OpJ.lenSlice rfl rfl sl22 rfl) ?_
    refine AList.c 20 rfl rfl rfl (OpJ.move rfl rfl) ?_
    refine AList.nil ?_
    refine AWp.block ?_
    refine AWp.loopHL [2, 3, 5, 18, 19, 59, 60] (fun g => [(20, .p (.int .i64 ((g : Nat) : Int)))]) (fun g => [(wC 62 0 1 ((l.take g).flatMap rptT)), (wF 5 ((l.take g).flatMap rptT))]) (fun g => g ≤ l.length) (fun g => l.length - g) 0 (Nat.zero_le _) (To.sub (Sub.chk (Sub.cons rfl (Sub.nil)))) (fun i hg => ?_)
    refine AWp.seq ?_
    refine AWp.region ?_
    refine AList.c 21 rfl rfl rfl (OpJ.lss rfl rfl rfl) ?_
    refine AList.nil ?_
    refine AWp.seq ?_
    refine AWp.cond _ rfl (fun hc1 => ?_) (fun hc1 => ?_)
    · skip
      have hk0 : i < l.length := by have h := of_decide_eq_true hc1; omega
      obtain ⟨_, hn0, hn1, hrb⟩ := hall _ (gt_mem Rpt.d hk0)
      obtain ⟨hs6, hstk, _, _⟩ := rptB_some hrb
      have hst := gt_step Rpt.d rptT l i hk0
      have hbi : ((l.take i).flatMap rptT ++ rptT (gt Rpt.d l i)).length ≤ 22200 := by rw [hst]; exact txt_le rptT l (i + 1) hB
      refine AWp.skip ?_
      refine AWp.seq ?_
      refine AWp.block ?_
      refine AWp.seq ?_
      refine AWp.region ?_
      refine AList.c 22 rfl rfl rfl (OpJ.indexG (g := gt Rpt.d l) (gt_get _) rfl rfl rfl sl22 el22 rfl (fun _ => rfl) (by decide) hk0) ?_
      refine AList.c 23 rfl rfl rfl (OpJ.load (v := .p (.agg (gt Rpt.d l i).cells)) rfl rfl ty33 rfl) ?_
      refine AList.c 7 rfl rfl rfl (OpJ.allocOwn rfl zr33 rfl) ?_
      refine AList.c0 rfl rfl (OpJ.store rfl rfl rfl rfl rfl ty33 rfl rfl) ?_
      refine AList.nil ?_
      refine AWp.seq ?_
      refine AWp.region ?_
      refine AList.c 24 rfl rfl rfl (OpJ.makeIface rfl rfl con9) ?_
      refine AList.c 25 rfl rfl rfl (OpJ.fieldAddr rfl rfl fd33_0 rfl) ?_
      refine AList.c 26 rfl rfl rfl (OpJ.load (v := .p (.int .i64 (gt Rpt.d l i).batch)) rfl rfl ty3 rfl) ?_
      refine AList.c 27 rfl rfl rfl (OpJ.makeIface rfl rfl con3) ?_
      refine AList.c 28 rfl rfl rfl (OpJ.makeIface rfl rfl con9) ?_
      refine AList.c 29 rfl rfl rfl (OpJ.fieldAddr rfl rfl fd33_2 rfl) ?_
      refine AList.c 30 rfl rfl rfl (OpJ.load (v := .p (.agg (gt Rpt.d l i).strength.cells)) rfl rfl ty31 rfl) ?_
      refine AList.c 31 rfl rfl rfl (OpJ.makeIface rfl rfl con31) ?_
      refine AList.c 32 rfl rfl rfl (OpJ.makeIface rfl rfl con9) ?_
      refine AList.c 33 rfl rfl rfl (OpJ.fieldAddr rfl rfl fd33_3 rfl) ?_
      refine AList.c 34 rfl rfl rfl (OpJ.load (v := .p (.agg (gt Rpt.d l i).wear.cells)) rfl rfl ty31 rfl) ?_
      refine AList.c 35 rfl rfl rfl (OpJ.makeIface rfl rfl con31) ?_
      refine AList.c 36 rfl rfl rfl (OpJ.makeIface rfl rfl con9) ?_
      refine AList.c 37 rfl rfl rfl (OpJ.buildImm rfl slz109 (by decide) rfl rfl rfl) ?_
      refine AList.callW 38 0 1 (put_ok _ (rptP (gt Rpt.d l i)) (fun p hp => (rptP_ok hrb hn0 hn1 p hp).1) (by show 7 ≤ 1000; decide) (Nat.le_trans (txt_pre hbi) (by decide))) (by decide) rfl rfl rfl rfl rfl rfl rfl rfl rfl rf21 ?_
      refine AList.nil ?_
      refine AWp.seq ?_
      refine AWp.region ?_
      refine AList.c 39 rfl rfl rfl (OpJ.fieldAddr rfl rfl fd33_1 rfl) ?_
      refine AList.c 40 rfl rfl rfl (OpJ.load (v := .p (stksV (gt Rpt.d l i).strokes)) rfl rfl ty29 rfl) ?_
      refine AList.c 41 rfl rfl rfl (OpJ.lenSlice rfl rfl sl29 rfl) ?_
      refine AList.c 42 rfl rfl rfl (OpJ.move rfl rfl) ?_
      refine AList.nil ?_
      refine AWp.block ?_
      refine AWp.norm [0, 3] [(2, _), (3, _), (5, _), (18, _), (19, _), (20, _), (40, _), (41, _), (42, _)] [(wC 62 0 1 (((l.take i).flatMap rptT ++ rptH (gt Rpt.d l i)) ++ ((gt Rpt.d l i).strokes.take 0).flatMap stkT)), (wF 5 (((l.take i).flatMap rptT ++ rptH (gt Rpt.d l i)) ++ ((gt Rpt.d l i).strokes.take 0).flatMap stkT))] rfl (by repeat (first | exact Sub.nil | refine Sub.cons rfl ?_)) (by show [renB _ (wC 62 0 3 _), renB _ (wF 5 _)] = [(wC 62 0 1 (((l.take i).flatMap rptT ++ rptH (gt Rpt.d l i)) ++ ((gt Rpt.d l i).strokes.take 0).flatMap stkT)), (wF 5 (((l.take i).flatMap rptT ++ rptH (gt Rpt.d l i)) ++ ((gt Rpt.d l i).strokes.take 0).flatMap stkT))]; rw [wC_ren (σ := pl [0, 3]) (i := 0) (j := 3) (i' := 0) (j' := 1) rfl rfl, wF_ren]; simp [rptH, rptP]) ?_
      refine AWp.loopHL [2, 3, 5, 7, 18, 19, 20, 21, 22, 23, 24, 25, 26, 27, 28, 29, 30, 31, 32, 33, 34, 35, 36, 37, 39, 40, 41, 58, 59, 60] (fun g => [(42, .p (.int .i64 ((g : Nat) : Int)))]) (fun g => [(wC 62 0 1 (((l.take i).flatMap rptT ++ rptH (gt Rpt.d l i)) ++ ((gt Rpt.d l i).strokes.take g).flatMap stkT)), (wF 5 (((l.take i).flatMap rptT ++ rptH (gt Rpt.d l i)) ++ ((gt Rpt.d l i).strokes.take g).flatMap stkT))]) (fun g => g ≤ (gt Rpt.d l i).strokes.length) (fun g => (gt Rpt.d l i).strokes.length - g) 0 (Nat.zero_le _) (To.sub (Sub.chk (Sub.cons rfl (Sub.nil)))) (fun k hgk => ?_)
      refine AWp.seq ?_
      refine AWp.region ?_
      refine AList.c 43 rfl rfl rfl (OpJ.lss rfl rfl rfl) ?_
      refine AList.nil ?_
      refine AWp.seq ?_
      refine AWp.cond _ rfl (fun hc2 => ?_) (fun hc2 => ?_)
      · skip
        have hk2 : k < (gt Rpt.d l i).strokes.length := by have h := of_decide_eq_true hc2; omega
        have hsk := hstk _ (gt_mem Stk.d hk2)
        have hst2 := gt_step Stk.d stkT (gt Rpt.d l i).strokes k hk2
        have hbk : (((l.take i).flatMap rptT ++ rptH (gt Rpt.d l i)) ++ ((gt Rpt.d l i).strokes.take (k + 1)).flatMap stkT).length ≤ 22200 := by have h1 := take_len stkT (gt Rpt.d l i).strokes (k + 1); simp only [rptT, List.length_append] at hbi ⊢; omega
        refine AWp.skip ?_
        refine AWp.seq ?_
        refine AWp.block ?_
        refine AWp.seq ?_
        refine AWp.region ?_
        refine AList.c 44 rfl rfl rfl (OpJ.indexG (g := gt Stk.d (gt Rpt.d l i).strokes) (gt_get _) rfl rfl rfl sl29 el29 rfl (fun _ => rfl) (by decide) hk2) ?_
        refine AList.c 45 rfl rfl rfl (OpJ.load (v := .p (.agg (gt Stk.d (gt Rpt.d l i).strokes k).cells)) rfl rfl ty65 rfl) ?_
        refine AList.c 9 rfl rfl rfl (OpJ.allocOwn rfl zr65 rfl) ?_
        refine AList.c0 rfl rfl (OpJ.store rfl rfl rfl rfl rfl ty65 rfl rfl) ?_
        refine AList.nil ?_
        refine AWp.region ?_
        refine AList.c 46 rfl rfl rfl (OpJ.makeIface rfl rfl con9) ?_
        refine AList.c 47 rfl rfl rfl (OpJ.fieldAddr rfl rfl fd65_0 rfl) ?_
        refine AList.c 48 rfl rfl rfl (OpJ.load (v := .p (.agg (gt Stk.d (gt Rpt.d l i).strokes k).read.cells)) rfl rfl ty31 rfl) ?_
        refine AList.c 49 rfl rfl rfl (OpJ.makeIface rfl rfl con31) ?_
        refine AList.c 50 rfl rfl rfl (OpJ.makeIface rfl rfl con9) ?_
        refine AList.c 51 rfl rfl rfl (OpJ.fieldAddr rfl rfl fd65_1 rfl) ?_
        refine AList.c 52 rfl rfl rfl (OpJ.load (v := .p (.agg (gt Stk.d (gt Rpt.d l i).strokes k).paper.cells)) rfl rfl ty31 rfl) ?_
        refine AList.c 53 rfl rfl rfl (OpJ.makeIface rfl rfl con31) ?_
        refine AList.c 54 rfl rfl rfl (OpJ.makeIface rfl rfl con9) ?_
        refine AList.c 55 rfl rfl rfl (OpJ.buildImm rfl slz109 (by decide) rfl rfl rfl) ?_
        refine AList.callW 56 0 1 (put_ok _ (stkP (gt Stk.d (gt Rpt.d l i).strokes k)) (fun p hp => (stkP_ok hsk p hp).1) (by show 5 ≤ 1000; decide) (by rw [List.append_assoc, show prtsT (stkP (gt Stk.d (gt Rpt.d l i).strokes k)) = stkT (gt Stk.d (gt Rpt.d l i).strokes k) from rfl, hst2]; exact Nat.le_trans hbk (by decide))) (by decide) rfl rfl rfl rfl rfl rfl rfl rfl rfl rf21 ?_
        refine AList.nil ?_
        refine AWp.region ?_
        refine AList.c 57 rfl rfl rfl (OpJ.add rfl rfl rfl (i64ok ?_)) ?_
        · omega
        refine AList.c 42 rfl rfl rfl (OpJ.move rfl rfl) ?_
        refine AList.nil ?_
        refine ⟨k + 1, ?_, ?_, ?_⟩
        · exact hk2
        · omega
        exact To.done [0, 3] rfl (by repeat (first | exact Sub.nil | refine Sub.cons rfl ?_)) (by show [renB _ (wC 62 0 3 _), renB _ (wF 5 _)] = [(wC 62 0 1 (((l.take i).flatMap rptT ++ rptH (gt Rpt.d l i)) ++ ((gt Rpt.d l i).strokes.take (k + 1)).flatMap stkT)), (wF 5 (((l.take i).flatMap rptT ++ rptH (gt Rpt.d l i)) ++ ((gt Rpt.d l i).strokes.take (k + 1)).flatMap stkT))]; rw [wC_ren (σ := pl [0, 3]) (i := 0) (j := 3) (i' := 0) (j' := 1) rfl rfl, wF_ren, List.append_assoc, show prtsT (stkP (gt Stk.d (gt Rpt.d l i).strokes k)) = stkT (gt Stk.d (gt Rpt.d l i).strokes k) from rfl, hst2])
      · skip
        have hk3 : k = (gt Rpt.d l i).strokes.length := by have h := of_decide_eq_false hc2; omega
        refine AWp.exit ?_
        refine AWp.region ?_
        refine AList.c 58 rfl rfl rfl (OpJ.add rfl rfl rfl (i64ok ?_)) ?_
        · omega
        refine AList.c 20 rfl rfl rfl (OpJ.move rfl rfl) ?_
        refine AList.nil ?_
        refine ⟨i + 1, ?_, ?_, ?_⟩
        · exact hk0
        · omega
        exact To.done [0, 1] rfl (by repeat (first | exact Sub.nil | refine Sub.cons rfl ?_)) (by show [renB _ (wC 62 0 1 _), renB _ (wF 5 _)] = [(wC 62 0 1 ((l.take (i + 1)).flatMap rptT)), (wF 5 ((l.take (i + 1)).flatMap rptT))]; rw [wC_ren (σ := pl [0, 1]) (i := 0) (j := 1) (i' := 0) (j' := 1) rfl rfl, wF_ren, hk3, List.take_length, List.append_assoc]; rw [← hst]; rfl)
    · skip
      have hi : i = l.length := by have h := of_decide_eq_false hc1; omega
      subst hi
      refine AWp.exit ?_
      refine AWp.seq ?_
      refine AWp.region ?_
      refine AList.c 59 rfl rfl rfl (OpJ.fieldAddr rfl rfl fd62_0 rfl) ?_
      refine AList.callX 60 (bstr_ok _ (Nat.le_trans (txt_le rptT l l.length hB) (by decide))) rfl rfl rfl rfl rfl rfl rfl rf22 (fun v H2 hQ2 => ?_)
      obtain ⟨rfl, rfl⟩ := hQ2
      refine AList.c 2 rfl rfl rfl (OpJ.assign rfl rfl) ?_
      refine AList.c 3 rfl rfl rfl (OpJ.assign rfl rfl) ?_
      refine AList.nil ?_
      refine AWp.ret ?_
      refine Fin.manyE (xs := [.str (sB ((l.take l.length).flatMap rptT)), .int .i64 0]) rfl ⟨_, _, rfl, rfl, ⟨_, _, rfl, rfl, rfl⟩⟩ rfl ?_
      rw [wrR_yes hz, List.take_length]
      rfl
end Go.Proofs.YtplofbjppcbchaaDoor
end

section
set_option linter.unusedVariables false
set_option maxRecDepth 100000
set_option maxHeartbeats 4000000
set_option linter.unusedSimpArgs false
namespace Go.Proofs.YtplofbjppcbchaaDoor
open Go.AF
theorem long_nat (l : Bs) (n : Nat) (hn : n ≤ 1099511627776) (hb : (l ++ longT n).length ≤ 1099511627776) : ACallsW Tryd.prog 62 5 27 [.int .i64 ((n : Nat) : Int)] l ((longT n)) (.tuple []) := by
  refine ACalls.start (N := 21) Tryd.func27 rfl rfl (Nat.le_of_ble_eq_true rfl) ?_
  refine AWp.seq ?_
  refine AWp.block ?_
  refine AWp.to (To.mvW 0 1 (by decide) rfl rfl) ?_
  show AWp _ _ _ _ _ _ _ [(wC 62 0 2 (l)), .dead, (wF 5 (l))]
  refine AWp.loopHL [0, 15, 16, 17, 18, 19] (fun g => [(1, .p (.int .i64 ((g.2 : Nat) : Int)))]) (fun g => [(wC 62 0 2 (l ++ g.1)), .dead, (wF 5 (l ++ g.1))]) (fun g => longT n = g.1 ++ longT g.2 ∧ g.2 ≤ 1099511627776) (fun g => g.2) (([] : Bs), n) ⟨rfl, hn⟩ (To.eqH (To.sub (Sub.chk (Sub.cons rfl Sub.nil))) (by show [(wC 62 0 2 (l)), .dead, (wF 5 (l))] = [(wC 62 0 2 (l ++ [])), .dead, (wF 5 (l ++ []))]; rw [List.append_nil])) (fun ⟨s, m⟩ ⟨hg1, hg2⟩ => ?_)
  refine AWp.seq ?_
  refine AWp.seq ?_
  refine AWp.region ?_
  refine AList.c 4 rfl rfl rfl (OpJ.move rfl rfl) ?_
  refine AList.c 5 rfl rfl rfl (OpJ.geq rfl rfl rfl) ?_
  refine AList.nil ?_
  refine AWp.cond _ rfl (fun hc0 => ?_) (fun hc0 => ?_)
  · skip
    have hm : 128 ≤ m := by have h := of_decide_eq_true hc0; omega
    have hlm : (longT n).length = s.length + (longT m).length := by rw [hg1, List.length_append]
    rw [List.length_append] at hb
    have hpm := longT_pos m
    refine AWp.skip ?_
    refine AWp.seq ?_
    refine AWp.block ?_
    refine AWp.region ?_
    refine AList.c 8 rfl rfl rfl (OpJ.move rfl rfl) ?_
    refine AList.c 9 rfl rfl rfl (OpJ.nilCheck rfl rfl) ?_
    refine AList.c 10 rfl rfl rfl (OpJ.fieldAddr rfl rfl fd62_0 rfl) ?_
    refine AList.c 11 rfl rfl rfl (OpJ.move rfl rfl) ?_
    refine AList.c 12 rfl rfl rfl (OpJ.convInt (m := ((m % 256 : Nat) : Int)) rfl rfl (by rw [un3]; rfl) un5 (by rw [IntKind.wrap_u8]; omega)) ?_
    refine AList.c 13 rfl rfl rfl (OpJ.cst (OpJ.orN (m % 256) 128 rfl rfl rfl (by show _ ≤ (255 : Int); omega) (by show _ ≤ (255 : Int); omega) (by rw [or128 _ (Nat.mod_lt _ (by decide))]; show _ ≤ (255 : Int); omega)) (or128u m)) ?_
    refine AList.callW 14 0 2 (wbyte_ok _ (UInt8.ofNat (128 + m % 128)) (by simp only [List.length_append, List.length_singleton]; omega)) (by decide) rfl rfl rfl rfl rfl rfl rfl rfl rfl rf26 ?_
    refine AList.nil ?_
    refine AWp.region ?_
    refine AList.c 6 rfl rfl rfl (OpJ.move rfl rfl) ?_
    refine AList.c 7 rfl rfl rfl (OpJ.shrN m 7 rfl rfl rfl (by first | decide | (show _ ≤ (9223372036854775807 : Int); omega) | (show _ ≤ (4294967295 : Int); omega) | (show _ ≤ (18446744073709551615 : Int); omega) | (show _ ≤ (255 : Int); omega) | (show _ ≤ (65535 : Int); omega))) ?_
    refine AList.c 1 rfl rfl rfl (OpJ.assign rfl rfl) ?_
    refine AList.nil ?_
    refine ⟨(s ++ [UInt8.ofNat (128 + m % 128)], m / 128), ?_, ?_, ?_⟩
    · exact ⟨by rw [hg1, longT_high hm]; simp, by omega⟩
    · show m / 128 < m
      omega
    exact To.done [0, 1, 3] rfl (by repeat (first | exact Sub.nil | refine Sub.cons rfl ?_)) (by show [renB _ (wC 62 0 3 _), renB _ .dead, renB _ (wF 5 _)] = [(wC 62 0 2 (l ++ (s ++ [UInt8.ofNat (128 + m % 128)]))), .dead, (wF 5 (l ++ (s ++ [UInt8.ofNat (128 + m % 128)])))]; rw [wC_ren (σ := pl [0, 1, 3]) (i := 0) (j := 3) (i' := 0) (j' := 2) rfl rfl, wF_ren]; simp; rfl)
  · skip
    have hm : m < 128 := by have h := of_decide_eq_false hc0; omega
    have hlm : (longT n).length = s.length + 1 := by rw [hg1, longT_low hm, List.length_append]; rfl
    rw [List.length_append] at hb
    refine AWp.exit ?_
    refine AWp.region ?_
    refine AList.c 15 rfl rfl rfl (OpJ.move rfl rfl) ?_
    refine AList.c 16 rfl rfl rfl (OpJ.nilCheck rfl rfl) ?_
    refine AList.c 17 rfl rfl rfl (OpJ.fieldAddr rfl rfl fd62_0 rfl) ?_
    refine AList.c 18 rfl rfl rfl (OpJ.move rfl rfl) ?_
    refine AList.c 19 rfl rfl rfl (OpJ.convInt (m := ((UInt8.ofNat m).toNat : Int)) rfl rfl (by rw [un3]; rfl) un5 (u8_conv m)) ?_
    refine AList.callW 20 0 2 (wbyte_ok _ (UInt8.ofNat m) (by simp only [List.length_append, List.length_singleton]; omega)) (by decide) rfl rfl rfl rfl rfl rfl rfl rfl rfl rf26 ?_
    refine AList.to (To.done (H2 := [(wC 62 0 2 (l ++ s ++ [UInt8.ofNat m])), .dead, (wF 5 (l ++ s ++ [UInt8.ofNat m]))]) [0, 1, 3] rfl Sub.nil (by show [renB _ (wC 62 0 3 _), renB _ .dead, renB _ (wF 5 _)] = [(wC 62 0 2 (l ++ s ++ [UInt8.ofNat m])), .dead, (wF 5 (l ++ s ++ [UInt8.ofNat m]))]; rw [wC_ren (σ := pl [0, 1, 3]) (i := 0) (j := 3) (i' := 0) (j' := 2) rfl rfl, wF_ren]; rfl)) ?_
    refine AList.nil ?_
    refine ⟨.inl rfl, _, resV.none_ rfl, rfl, by rw [hg1, longT_low hm, List.append_assoc]⟩
theorem long_ok (l : Bs) (n : Int) (h0 : 0 ≤ n) (h1 : n ≤ 1099511627776) (hb : (l ++ longT n.toNat).length ≤ 1099511627776) : ACallsW Tryd.prog 62 5 27 [.int .i64 n] l ((longT n.toNat)) (.tuple []) := by
  have h := long_nat l n.toNat (by omega) hb
  rwa [Int.toNat_of_nonneg h0] at h
theorem sum_ok (s : Bs) (hs : s.length ≤ 1099511627776) : Pure Tryd.prog 28 [.str (sB s)] (.int .u8 ((sumB s).toNat : Int)) := by
  refine Pure.start (N := 17) Tryd.func28 rfl rfl (Nat.le_of_ble_eq_true rfl) ?_
  refine AWp.seq ?_
  refine AWp.region ?_
  refine AList.c 2 rfl rfl rfl (OpJ.assign rfl rfl) ?_
  refine AList.nil ?_
  refine AWp.seq ?_
  refine AWp.seq ?_
  refine AWp.region ?_
  refine AList.c 5 rfl rfl rfl (OpJ.move rfl rfl) ?_
  refine AList.c 6 rfl rfl rfl (OpJ.isR (OpJ.strBytes s rfl rfl st9 bt58) (bP_flat s)) ?_
  refine AList.c 7 rfl rfl rfl (OpJ.lenSlice rfl rfl sl58 rfl) ?_
  refine AList.c 8 rfl rfl rfl (OpJ.move rfl rfl) ?_
  refine AList.nil ?_
  refine AWp.block ?_
  refine AWp.loopHL [6, 7, 16] (fun g => [(8, .p (.int .i64 ((g : Nat) : Int))), (2, .p (.int .u8 ((sumB (s.take g)).toNat : Int)))]) (fun g => []) (fun g => g ≤ s.length) (fun g => s.length - g) 0 (Nat.zero_le _) (To.sub (Sub.chk (Sub.cons rfl (Sub.cons rfl (Sub.nil))))) (fun i hg => ?_)
  refine AWp.seq ?_
  refine AWp.region ?_
  refine AList.c 9 rfl rfl rfl (OpJ.lss rfl rfl rfl) ?_
  refine AList.nil ?_
  refine AWp.seq ?_
  refine AWp.cond _ rfl (fun hc0 => ?_) (fun hc0 => ?_)
  · skip
    have hk0 : i < s.length := by have h := of_decide_eq_true hc0; omega
    refine AWp.skip ?_
    refine AWp.seq ?_
    refine AWp.block ?_
    refine AWp.seq ?_
    refine AWp.region ?_
    refine AList.c 10 rfl rfl rfl (OpJ.indexG (g := gt 0 s) (gt_get _) rfl rfl rfl sl58 el58 rfl (fun _ => rfl) (by decide) hk0) ?_
    refine AList.c 11 rfl rfl rfl (OpJ.load (v := .p (.int .u8 ((gt 0 s i).toNat : Int))) rfl rfl ty5 rfl) ?_
    refine AList.c 4 rfl rfl rfl (OpJ.assign rfl rfl) ?_
    refine AList.nil ?_
    refine AWp.region ?_
    refine AList.c 12 rfl rfl rfl (OpJ.move rfl rfl) ?_
    refine AList.c 13 rfl rfl rfl (OpJ.move rfl rfl) ?_
    refine AList.c 14 rfl rfl rfl (OpJ.add (m := ((sumB (s.take i) + gt 0 s i).toNat : Int)) rfl rfl rfl ?_) ?_
    · exact u8_add _ _
    refine AList.c 2 rfl rfl rfl (OpJ.assign rfl rfl) ?_
    refine AList.nil ?_
    refine AWp.region ?_
    refine AList.c 15 rfl rfl rfl (OpJ.add rfl rfl rfl (i64ok ?_)) ?_
    · omega
    refine AList.c 8 rfl rfl rfl (OpJ.move rfl rfl) ?_
    refine AList.nil ?_
    refine ⟨i + 1, ?_, ?_, ?_⟩
    · exact hk0
    · omega
    exact To.done [] rfl (Sub.cons rfl (Sub.cons (by rw [sum_step s i hk0]; rfl) (by repeat (first | exact Sub.nil | refine Sub.cons rfl ?_)))) rfl
  · skip
    have hi : i = s.length := by have h := of_decide_eq_false hc0; omega
    refine AWp.exit ?_
    refine AWp.seq ?_
    refine AWp.region ?_
    refine AList.c 16 rfl rfl rfl (OpJ.move rfl rfl) ?_
    refine AList.c 2 rfl rfl rfl (OpJ.assign rfl rfl) ?_
    refine AList.nil ?_
    refine AWp.ret ?_
    refine Fin.oneE rfl rfl ?_
    rw [hi, List.take_length]
theorem head_ok  : Pure Tryd.prog 24 [] (.agg [.int .u8 80, .int .u8 67, .int .u8 1]) := by
  refine Pure.start (N := 2) Tryd.func24 rfl rfl (Nat.le_of_ble_eq_true rfl) ?_
  refine AWp.seq ?_
  refine AWp.region ?_
  refine AList.c 0 rfl rfl rfl (OpJ.allocOwn rfl zr68 rfl) ?_
  refine AList.nil ?_
  refine AWp.seq ?_
  refine AWp.region ?_
  refine AList.c 1 rfl rfl rfl (OpJ.build rfl bd68 rfl rfl) ?_
  refine AList.c0 rfl rfl (OpJ.store rfl rfl rfl rfl rfl ty68 rfl rfl) ?_
  refine AList.nil ?_
  refine AWp.ret ?_
  exact Fin.one rfl (⟨_, _, _, rfl, ty68, rfl⟩)
theorem writeCards_ok (l : List Crd) (hl : l.length ≤ bigN) : Pure Tryd.prog 7 [crdsV l] (.tuple [.str (sB (wrC l).1), .int .i64 (wrC l).2]) := by
  have hl2 := hl
  unfold bigN at hl2
  refine Pure.start (N := 65) Tryd.func7 rfl rfl (Nat.le_of_ble_eq_true rfl) ?_
  refine AWp.seq ?_
  refine AWp.region ?_
  refine AList.c 2 rfl rfl rfl (OpJ.assign rfl rfl) ?_
  refine AList.c 3 rfl rfl rfl (OpJ.assign rfl rfl) ?_
  refine AList.nil ?_
  refine AWp.seq ?_
  refine AWp.seq ?_
  refine AWp.region ?_
  refine AList.c 10 rfl rfl rfl (OpJ.move rfl rfl) ?_
  refine AList.c 11 rfl rfl rfl (OpJ.lenSlice rfl rfl sl23 rfl) ?_
  refine AList.c 12 rfl rfl rfl (OpJ.move rfl rfl) ?_
  refine AList.c 13 rfl rfl rfl (OpJ.callP (areCards_ok l hl) rfl rfl rfl rfl rf23) ?_
  refine AList.c 14 rfl rfl rfl (OpJ.callP (check_ok _ _ _) rfl rfl rfl rfl rf19) ?_
  refine AList.c 4 rfl rfl rfl (OpJ.assign rfl rfl) ?_
  refine AList.nil ?_
  refine AWp.seq ?_
  refine AWp.region ?_
  refine AList.c 15 rfl rfl rfl (OpJ.move rfl rfl) ?_
  refine AList.c 16 rfl rfl rfl (OpJ.neq rfl rfl rfl) ?_
  refine AList.nil ?_
  refine AWp.cond _ rfl (fun hc0 => ?_) (fun hc0 => ?_)
  · skip
    have hne : ¬ chkN l.length 40 (crdsB l) = 0 := by simpa using hc0
    refine AWp.seq ?_
    refine AWp.region ?_
    refine AList.c 17 rfl rfl rfl (OpJ.move rfl rfl) ?_
    refine AList.c 2 rfl rfl rfl (OpJ.assign rfl rfl) ?_
    refine AList.c 3 rfl rfl rfl (OpJ.assign rfl rfl) ?_
    refine AList.nil ?_
    refine AWp.ret ?_
    refine Fin.manyE (xs := [.str (sB []), .int .i64 (chkN l.length 40 (crdsB l))]) rfl ⟨_, _, rfl, rfl, ⟨_, _, rfl, rfl, rfl⟩⟩ rfl ?_
    rw [wrC_no hne]
  · skip
    have hz : chkN l.length 40 (crdsB l) = 0 := by simpa using hc0
    obtain ⟨hl40, hv⟩ := chk_zero hz
    have hall := rise_all hv (by decide)
    have hB : (crdsT 0 l).length ≤ 560 := by have h := crdsT_len l 0 (Int.le_refl _) (fun c hc => ⟨(hall c hc).2.2.2, (hall c hc).2.1, (hall c hc).2.2.1⟩); omega
    refine AWp.skip ?_
    refine AWp.seq ?_
    refine AWp.region ?_
    refine AList.c 5 rfl rfl rfl (OpJ.allocOwn rfl zr62 rfl) ?_
    refine AList.nil ?_
    refine AWp.seq ?_
    refine AWp.to To.pad ?_
    show AWp _ _ _ _ _ _ _ [(wC 62 0 1 ([])), (wF 5 ([]))]
    refine AWp.region ?_
    refine AList.c 18 rfl rfl rfl (OpJ.callP (head_ok) rfl rfl rfl rfl rf24) ?_
    refine AList.c 6 rfl rfl rfl (OpJ.allocOwn rfl zr68 rfl) ?_
    refine AList.c0 rfl rfl (OpJ.store rfl rfl rfl rfl rfl ty68 rfl rfl) ?_
    refine AList.nil ?_
    refine AWp.seq ?_
    refine AWp.freeze 2 rfl rfl ?_
    refine AWp.region ?_
    refine AList.c 19 rfl rfl rfl (OpJ.fieldAddr rfl rfl fd62_0 rfl) ?_
    refine AList.c 20 rfl rfl rfl (OpJ.sliceArr (l := 0) (h := 3) (r := bP [80, 67, 1]) rfl rfl ar68 el68 rfl rfl (by omega) (by omega) rfl) ?_
    refine AList.callW 21 0 1 (wbytes_ok _ [80, 67, 1] (by decide) (by decide)) (by decide) rfl rfl rfl rfl rfl rfl rfl rfl rfl rf25 ?_
    refine AList.nil ?_
    refine AWp.seq ?_
    refine AWp.norm [0, 3] [(0, _), (2, _), (3, _), (5, _)] [(wC 62 0 1 ([80, 67, 1])), (wF 5 ([80, 67, 1]))] rfl (by repeat (first | exact Sub.nil | refine Sub.cons rfl ?_)) (by show [renB (pl [0, 3]) (wC 62 0 3 ([] ++ [80, 67, 1])), renB (pl [0, 3]) (wF 5 ([] ++ [80, 67, 1]))] = [(wC 62 0 1 ([80, 67, 1])), (wF 5 ([80, 67, 1]))]; rw [wC_ren (σ := pl [0, 3]) (i := 0) (j := 3) (i' := 0) (j' := 1) rfl rfl, wF_ren]; rfl) ?_
    refine AWp.region ?_
    refine AList.c 22 rfl rfl rfl (OpJ.fieldAddr rfl rfl fd62_0 rfl) ?_
    refine AList.c 23 rfl rfl rfl (OpJ.move rfl rfl) ?_
    refine AList.c 24 rfl rfl rfl (OpJ.lenSlice rfl rfl sl23 rfl) ?_
    refine AList.c 25 rfl rfl rfl (OpJ.convInt (m := ((UInt8.ofNat l.length).toNat : Int)) rfl rfl (by rw [un3]; rfl) un5 (u8_conv l.length)) ?_
    refine AList.callW 26 0 1 (wbyte_ok _ (UInt8.ofNat l.length) (by show 4 ≤ 1099511627776; decide)) (by decide) rfl rfl rfl rfl rfl rfl rfl rfl rfl rf26 ?_
    refine AList.nil ?_
    refine AWp.seq ?_
    refine AWp.norm [0, 2] [(0, _), (2, _), (3, _), (5, _)] [(wC 62 0 1 (crdH l)), (wF 5 (crdH l))] rfl (by repeat (first | exact Sub.nil | refine Sub.cons rfl ?_)) (by show [renB (pl [0, 2]) (wC 62 0 2 ([80, 67, 1] ++ [UInt8.ofNat l.length])), renB (pl [0, 2]) (wF 5 ([80, 67, 1] ++ [UInt8.ofNat l.length]))] = [(wC 62 0 1 (crdH l)), (wF 5 (crdH l))]; rw [wC_ren (σ := pl [0, 2]) (i := 0) (j := 2) (i' := 0) (j' := 1) rfl rfl, wF_ren]; rfl) ?_
    refine AWp.region ?_
    refine AList.c 7 rfl rfl rfl (OpJ.assign rfl rfl) ?_
    refine AList.nil ?_
    refine AWp.seq ?_
    refine AWp.seq ?_
    refine AWp.region ?_
    refine AList.c 27 rfl rfl rfl (OpJ.move rfl rfl) ?_
    refine AList.c 28 rfl rfl rfl (OpJ.lenSlice rfl rfl sl23 rfl) ?_
    refine AList.c 29 rfl rfl rfl (OpJ.move rfl rfl) ?_
    refine AList.nil ?_
    refine AWp.block ?_
    refine AWp.loopHL [2, 3, 5, 27, 28, 58, 59, 60, 61, 63, 64] (fun g => [(29, .p (.int .i64 ((g : Nat) : Int))), (7, .p (.int .i64 (nxtC l g)))]) (fun g => [(wC 62 0 1 (crdH l ++ crdsT 0 (l.take g))), (wF 5 (crdH l ++ crdsT 0 (l.take g)))]) (fun g => g ≤ l.length) (fun g => l.length - g) 0 (Nat.zero_le _) (To.eqH (To.sub (Sub.chk (Sub.cons rfl (Sub.cons rfl Sub.nil)))) (by show [(wC 62 0 1 (crdH l)), (wF 5 (crdH l))] = [(wC 62 0 1 (crdH l ++ crdsT 0 (l.take 0))), (wF 5 (crdH l ++ crdsT 0 (l.take 0)))]; rw [List.take_zero, show crdsT 0 [] = [] from rfl, List.append_nil])) (fun i hg => ?_)
    refine AWp.seq ?_
    refine AWp.region ?_
    refine AList.c 30 rfl rfl rfl (OpJ.lss rfl rfl rfl) ?_
    refine AList.nil ?_
    refine AWp.seq ?_
    refine AWp.cond _ rfl (fun hc1 => ?_) (fun hc1 => ?_)
    · skip
      have hk0 : i < l.length := by have h := of_decide_eq_true hc1; omega
      obtain ⟨_, hn0, hn1, hcb⟩ := hall _ (gt_mem Crd.d hk0)
      obtain ⟨hh, hsh, hpl, hmn⟩ := crdB_some hcb
      obtain ⟨hx0, hx1⟩ := rise_nxt hv i hk0
      have hst := crds_step l i hk0
      have hbi : (crdsT 0 (l.take i) ++ crdT (nxtC l i) (gt Crd.d l i)).length ≤ 560 := by rw [← hst]; have h := crdsT_len (l.take (i + 1)) 0 (Int.le_refl _) (fun c hc => ⟨(hall c (List.mem_of_mem_take hc)).2.2.2, (hall c (List.mem_of_mem_take hc)).2.1, (hall c (List.mem_of_mem_take hc)).2.2.1⟩); rw [List.length_take] at h; omega
      have hH : (crdH l).length = 4 := rfl
      simp only [crdT, List.length_append, List.length_singleton] at hbi
      refine AWp.skip ?_
      refine AWp.seq ?_
      refine AWp.block ?_
      refine AWp.seq ?_
      refine AWp.region ?_
      refine AList.c 31 rfl rfl rfl (OpJ.indexG (g := gt Crd.d l) (gt_get _) rfl rfl rfl sl23 el23 rfl (fun _ => rfl) (by decide) hk0) ?_
      refine AList.c 32 rfl rfl rfl (OpJ.load (v := .p (.agg (gt Crd.d l i).cells)) rfl rfl ty76 rfl) ?_
      refine AList.c 9 rfl rfl rfl (OpJ.allocOwn rfl zr76 rfl) ?_
      refine AList.c0 rfl rfl (OpJ.store rfl rfl rfl rfl rfl ty76 rfl rfl) ?_
      refine AList.nil ?_
      refine AWp.seq ?_
      refine AWp.region ?_
      refine AList.c 33 rfl rfl rfl (OpJ.fieldAddr rfl rfl fd76_0 rfl) ?_
      refine AList.c 34 rfl rfl rfl (OpJ.load (v := .p (.int .i64 (gt Crd.d l i).number)) rfl rfl ty3 rfl) ?_
      refine AList.c 35 rfl rfl rfl (OpJ.move rfl rfl) ?_
      refine AList.c 36 rfl rfl rfl (OpJ.sub_ rfl rfl rfl (i64ok ?_)) ?_
      · omega
      refine AList.callW 37 0 1 (long_ok _ _ (by omega) (by omega) (by simp only [List.length_append]; omega)) (by decide) rfl rfl rfl rfl rfl rfl rfl rfl rfl rf27 ?_
      refine AList.nil ?_
      refine AWp.seq ?_
      refine AWp.norm [0, 3, 2] [(2, _), (3, _), (5, _), (7, _), (9, _), (27, _), (28, _), (29, _)] [(wC 62 0 1 (((crdH l ++ crdsT 0 (l.take i)) ++ longT ((gt Crd.d l i).number - nxtC l i).toNat))), (wF 5 (((crdH l ++ crdsT 0 (l.take i)) ++ longT ((gt Crd.d l i).number - nxtC l i).toNat))), .cells [.p (.int .i64 (gt Crd.d l i).number), .p (.int .i64 (gt Crd.d l i).hour), .p (.int .i64 (gt Crd.d l i).shade), .p (.int .i64 (gt Crd.d l i).places), .p (.int .i64 (gt Crd.d l i).many)] 76] rfl (by repeat (first | exact Sub.nil | refine Sub.cons rfl ?_)) (by show [renB (pl [0, 3, 2]) (wC 62 0 3 ((crdH l ++ crdsT 0 (l.take i)) ++ longT ((gt Crd.d l i).number - nxtC l i).toNat)), renB (pl [0, 3, 2]) (wF 5 ((crdH l ++ crdsT 0 (l.take i)) ++ longT ((gt Crd.d l i).number - nxtC l i).toNat)), .cells [.p (.int .i64 (gt Crd.d l i).number), .p (.int .i64 (gt Crd.d l i).hour), .p (.int .i64 (gt Crd.d l i).shade), .p (.int .i64 (gt Crd.d l i).places), .p (.int .i64 (gt Crd.d l i).many)] 76] = [(wC 62 0 1 (((crdH l ++ crdsT 0 (l.take i)) ++ longT ((gt Crd.d l i).number - nxtC l i).toNat))), (wF 5 (((crdH l ++ crdsT 0 (l.take i)) ++ longT ((gt Crd.d l i).number - nxtC l i).toNat))), .cells [.p (.int .i64 (gt Crd.d l i).number), .p (.int .i64 (gt Crd.d l i).hour), .p (.int .i64 (gt Crd.d l i).shade), .p (.int .i64 (gt Crd.d l i).places), .p (.int .i64 (gt Crd.d l i).many)] 76]; rw [wC_ren (σ := pl [0, 3, 2]) (i := 0) (j := 3) (i' := 0) (j' := 1) rfl rfl, wF_ren]) ?_
      refine AWp.region ?_
      refine AList.c 38 rfl rfl rfl (OpJ.fieldAddr rfl rfl fd76_1 rfl) ?_
      refine AList.c 39 rfl rfl rfl (OpJ.load (v := .p (.int .i64 (gt Crd.d l i).hour)) rfl rfl ty3 rfl) ?_
      refine AList.callW 40 0 1 (long_ok _ _ hh.1 (by omega) (by simp only [List.length_append]; omega)) (by decide) rfl rfl rfl rfl rfl rfl rfl rfl rfl rf27 ?_
      refine AList.nil ?_
      refine AWp.seq ?_
      refine AWp.norm [0, 3, 2] [(2, _), (3, _), (5, _), (7, _), (9, _), (27, _), (28, _), (29, _)] [(wC 62 0 1 ((((crdH l ++ crdsT 0 (l.take i)) ++ longT ((gt Crd.d l i).number - nxtC l i).toNat) ++ longT (gt Crd.d l i).hour.toNat))), (wF 5 ((((crdH l ++ crdsT 0 (l.take i)) ++ longT ((gt Crd.d l i).number - nxtC l i).toNat) ++ longT (gt Crd.d l i).hour.toNat))), .cells [.p (.int .i64 (gt Crd.d l i).number), .p (.int .i64 (gt Crd.d l i).hour), .p (.int .i64 (gt Crd.d l i).shade), .p (.int .i64 (gt Crd.d l i).places), .p (.int .i64 (gt Crd.d l i).many)] 76] rfl (by repeat (first | exact Sub.nil | refine Sub.cons rfl ?_)) (by show [renB (pl [0, 3, 2]) (wC 62 0 3 (((crdH l ++ crdsT 0 (l.take i)) ++ longT ((gt Crd.d l i).number - nxtC l i).toNat) ++ longT (gt Crd.d l i).hour.toNat)), renB (pl [0, 3, 2]) (wF 5 (((crdH l ++ crdsT 0 (l.take i)) ++ longT ((gt Crd.d l i).number - nxtC l i).toNat) ++ longT (gt Crd.d l i).hour.toNat)), .cells [.p (.int .i64 (gt Crd.d l i).number), .p (.int .i64 (gt Crd.d l i).hour), .p (.int .i64 (gt Crd.d l i).shade), .p (.int .i64 (gt Crd.d l i).places), .p (.int .i64 (gt Crd.d l i).many)] 76] = [(wC 62 0 1 ((((crdH l ++ crdsT 0 (l.take i)) ++ longT ((gt Crd.d l i).number - nxtC l i).toNat) ++ longT (gt Crd.d l i).hour.toNat))), (wF 5 ((((crdH l ++ crdsT 0 (l.take i)) ++ longT ((gt Crd.d l i).number - nxtC l i).toNat) ++ longT (gt Crd.d l i).hour.toNat))), .cells [.p (.int .i64 (gt Crd.d l i).number), .p (.int .i64 (gt Crd.d l i).hour), .p (.int .i64 (gt Crd.d l i).shade), .p (.int .i64 (gt Crd.d l i).places), .p (.int .i64 (gt Crd.d l i).many)] 76]; rw [wC_ren (σ := pl [0, 3, 2]) (i := 0) (j := 3) (i' := 0) (j' := 1) rfl rfl, wF_ren]) ?_
      refine AWp.region ?_
      refine AList.c 41 rfl rfl rfl (OpJ.fieldAddr rfl rfl fd62_0 rfl) ?_
      refine AList.c 42 rfl rfl rfl (OpJ.fieldAddr rfl rfl fd76_2 rfl) ?_
      refine AList.c 43 rfl rfl rfl (OpJ.load (v := .p (.int .i64 (gt Crd.d l i).shade)) rfl rfl ty3 rfl) ?_
      refine AList.c 44 rfl rfl rfl (OpJ.convInt (m := ((UInt8.ofNat (gt Crd.d l i).shade.toNat).toNat : Int)) rfl rfl (by rw [un3]; rfl) un5 (u8_convI hsh.1)) ?_
      refine AList.callW 45 0 1 (wbyte_ok _ (UInt8.ofNat (gt Crd.d l i).shade.toNat) (by simp only [List.length_append, List.length_singleton]; omega)) (by decide) rfl rfl rfl rfl rfl rfl rfl rfl rfl rf26 ?_
      refine AList.nil ?_
      refine AWp.seq ?_
      refine AWp.norm [0, 3, 2] [(2, _), (3, _), (5, _), (7, _), (9, _), (27, _), (28, _), (29, _)] [(wC 62 0 1 (((((crdH l ++ crdsT 0 (l.take i)) ++ longT ((gt Crd.d l i).number - nxtC l i).toNat) ++ longT (gt Crd.d l i).hour.toNat) ++ [UInt8.ofNat (gt Crd.d l i).shade.toNat]))), (wF 5 (((((crdH l ++ crdsT 0 (l.take i)) ++ longT ((gt Crd.d l i).number - nxtC l i).toNat) ++ longT (gt Crd.d l i).hour.toNat) ++ [UInt8.ofNat (gt Crd.d l i).shade.toNat]))), .cells [.p (.int .i64 (gt Crd.d l i).number), .p (.int .i64 (gt Crd.d l i).hour), .p (.int .i64 (gt Crd.d l i).shade), .p (.int .i64 (gt Crd.d l i).places), .p (.int .i64 (gt Crd.d l i).many)] 76] rfl (by repeat (first | exact Sub.nil | refine Sub.cons rfl ?_)) (by show [renB (pl [0, 3, 2]) (wC 62 0 3 ((((crdH l ++ crdsT 0 (l.take i)) ++ longT ((gt Crd.d l i).number - nxtC l i).toNat) ++ longT (gt Crd.d l i).hour.toNat) ++ [UInt8.ofNat (gt Crd.d l i).shade.toNat])), renB (pl [0, 3, 2]) (wF 5 ((((crdH l ++ crdsT 0 (l.take i)) ++ longT ((gt Crd.d l i).number - nxtC l i).toNat) ++ longT (gt Crd.d l i).hour.toNat) ++ [UInt8.ofNat (gt Crd.d l i).shade.toNat])), .cells [.p (.int .i64 (gt Crd.d l i).number), .p (.int .i64 (gt Crd.d l i).hour), .p (.int .i64 (gt Crd.d l i).shade), .p (.int .i64 (gt Crd.d l i).places), .p (.int .i64 (gt Crd.d l i).many)] 76] = [(wC 62 0 1 (((((crdH l ++ crdsT 0 (l.take i)) ++ longT ((gt Crd.d l i).number - nxtC l i).toNat) ++ longT (gt Crd.d l i).hour.toNat) ++ [UInt8.ofNat (gt Crd.d l i).shade.toNat]))), (wF 5 (((((crdH l ++ crdsT 0 (l.take i)) ++ longT ((gt Crd.d l i).number - nxtC l i).toNat) ++ longT (gt Crd.d l i).hour.toNat) ++ [UInt8.ofNat (gt Crd.d l i).shade.toNat]))), .cells [.p (.int .i64 (gt Crd.d l i).number), .p (.int .i64 (gt Crd.d l i).hour), .p (.int .i64 (gt Crd.d l i).shade), .p (.int .i64 (gt Crd.d l i).places), .p (.int .i64 (gt Crd.d l i).many)] 76]; rw [wC_ren (σ := pl [0, 3, 2]) (i := 0) (j := 3) (i' := 0) (j' := 1) rfl rfl, wF_ren]) ?_
      refine AWp.region ?_
      refine AList.c 46 rfl rfl rfl (OpJ.fieldAddr rfl rfl fd62_0 rfl) ?_
      refine AList.c 47 rfl rfl rfl (OpJ.fieldAddr rfl rfl fd76_3 rfl) ?_
      refine AList.c 48 rfl rfl rfl (OpJ.load (v := .p (.int .i64 (gt Crd.d l i).places)) rfl rfl ty3 rfl) ?_
      refine AList.c 49 rfl rfl rfl (OpJ.convInt (m := ((UInt8.ofNat (gt Crd.d l i).places.toNat).toNat : Int)) rfl rfl (by rw [un3]; rfl) un5 (u8_convI hpl.1)) ?_
      refine AList.callW 50 0 1 (wbyte_ok _ (UInt8.ofNat (gt Crd.d l i).places.toNat) (by simp only [List.length_append, List.length_singleton]; omega)) (by decide) rfl rfl rfl rfl rfl rfl rfl rfl rfl rf26 ?_
      refine AList.nil ?_
      refine AWp.seq ?_
      refine AWp.norm [0, 3, 2] [(2, _), (3, _), (5, _), (7, _), (9, _), (27, _), (28, _), (29, _)] [(wC 62 0 1 ((((((crdH l ++ crdsT 0 (l.take i)) ++ longT ((gt Crd.d l i).number - nxtC l i).toNat) ++ longT (gt Crd.d l i).hour.toNat) ++ [UInt8.ofNat (gt Crd.d l i).shade.toNat]) ++ [UInt8.ofNat (gt Crd.d l i).places.toNat]))), (wF 5 ((((((crdH l ++ crdsT 0 (l.take i)) ++ longT ((gt Crd.d l i).number - nxtC l i).toNat) ++ longT (gt Crd.d l i).hour.toNat) ++ [UInt8.ofNat (gt Crd.d l i).shade.toNat]) ++ [UInt8.ofNat (gt Crd.d l i).places.toNat]))), .cells [.p (.int .i64 (gt Crd.d l i).number), .p (.int .i64 (gt Crd.d l i).hour), .p (.int .i64 (gt Crd.d l i).shade), .p (.int .i64 (gt Crd.d l i).places), .p (.int .i64 (gt Crd.d l i).many)] 76] rfl (by repeat (first | exact Sub.nil | refine Sub.cons rfl ?_)) (by show [renB (pl [0, 3, 2]) (wC 62 0 3 (((((crdH l ++ crdsT 0 (l.take i)) ++ longT ((gt Crd.d l i).number - nxtC l i).toNat) ++ longT (gt Crd.d l i).hour.toNat) ++ [UInt8.ofNat (gt Crd.d l i).shade.toNat]) ++ [UInt8.ofNat (gt Crd.d l i).places.toNat])), renB (pl [0, 3, 2]) (wF 5 (((((crdH l ++ crdsT 0 (l.take i)) ++ longT ((gt Crd.d l i).number - nxtC l i).toNat) ++ longT (gt Crd.d l i).hour.toNat) ++ [UInt8.ofNat (gt Crd.d l i).shade.toNat]) ++ [UInt8.ofNat (gt Crd.d l i).places.toNat])), .cells [.p (.int .i64 (gt Crd.d l i).number), .p (.int .i64 (gt Crd.d l i).hour), .p (.int .i64 (gt Crd.d l i).shade), .p (.int .i64 (gt Crd.d l i).places), .p (.int .i64 (gt Crd.d l i).many)] 76] = [(wC 62 0 1 ((((((crdH l ++ crdsT 0 (l.take i)) ++ longT ((gt Crd.d l i).number - nxtC l i).toNat) ++ longT (gt Crd.d l i).hour.toNat) ++ [UInt8.ofNat (gt Crd.d l i).shade.toNat]) ++ [UInt8.ofNat (gt Crd.d l i).places.toNat]))), (wF 5 ((((((crdH l ++ crdsT 0 (l.take i)) ++ longT ((gt Crd.d l i).number - nxtC l i).toNat) ++ longT (gt Crd.d l i).hour.toNat) ++ [UInt8.ofNat (gt Crd.d l i).shade.toNat]) ++ [UInt8.ofNat (gt Crd.d l i).places.toNat]))), .cells [.p (.int .i64 (gt Crd.d l i).number), .p (.int .i64 (gt Crd.d l i).hour), .p (.int .i64 (gt Crd.d l i).shade), .p (.int .i64 (gt Crd.d l i).places), .p (.int .i64 (gt Crd.d l i).many)] 76]; rw [wC_ren (σ := pl [0, 3, 2]) (i := 0) (j := 3) (i' := 0) (j' := 1) rfl rfl, wF_ren]) ?_
      refine AWp.region ?_
      refine AList.c 51 rfl rfl rfl (OpJ.fieldAddr rfl rfl fd76_4 rfl) ?_
      refine AList.c 52 rfl rfl rfl (OpJ.load (v := .p (.int .i64 (gt Crd.d l i).many)) rfl rfl ty3 rfl) ?_
      refine AList.callW 53 0 1 (long_ok _ _ hmn.1 (by omega) (by simp only [List.length_append, List.length_singleton]; omega)) (by decide) rfl rfl rfl rfl rfl rfl rfl rfl rfl rf27 ?_
      refine AList.nil ?_
      refine AWp.norm [0, 3, 2] [(2, _), (3, _), (5, _), (7, _), (9, _), (27, _), (28, _), (29, _)] [(wC 62 0 1 (((((((crdH l ++ crdsT 0 (l.take i)) ++ longT ((gt Crd.d l i).number - nxtC l i).toNat) ++ longT (gt Crd.d l i).hour.toNat) ++ [UInt8.ofNat (gt Crd.d l i).shade.toNat]) ++ [UInt8.ofNat (gt Crd.d l i).places.toNat]) ++ longT (gt Crd.d l i).many.toNat))), (wF 5 (((((((crdH l ++ crdsT 0 (l.take i)) ++ longT ((gt Crd.d l i).number - nxtC l i).toNat) ++ longT (gt Crd.d l i).hour.toNat) ++ [UInt8.ofNat (gt Crd.d l i).shade.toNat]) ++ [UInt8.ofNat (gt Crd.d l i).places.toNat]) ++ longT (gt Crd.d l i).many.toNat))), .cells [.p (.int .i64 (gt Crd.d l i).number), .p (.int .i64 (gt Crd.d l i).hour), .p (.int .i64 (gt Crd.d l i).shade), .p (.int .i64 (gt Crd.d l i).places), .p (.int .i64 (gt Crd.d l i).many)] 76] rfl (by repeat (first | exact Sub.nil | refine Sub.cons rfl ?_)) (by show [renB (pl [0, 3, 2]) (wC 62 0 3 ((((((crdH l ++ crdsT 0 (l.take i)) ++ longT ((gt Crd.d l i).number - nxtC l i).toNat) ++ longT (gt Crd.d l i).hour.toNat) ++ [UInt8.ofNat (gt Crd.d l i).shade.toNat]) ++ [UInt8.ofNat (gt Crd.d l i).places.toNat]) ++ longT (gt Crd.d l i).many.toNat)), renB (pl [0, 3, 2]) (wF 5 ((((((crdH l ++ crdsT 0 (l.take i)) ++ longT ((gt Crd.d l i).number - nxtC l i).toNat) ++ longT (gt Crd.d l i).hour.toNat) ++ [UInt8.ofNat (gt Crd.d l i).shade.toNat]) ++ [UInt8.ofNat (gt Crd.d l i).places.toNat]) ++ longT (gt Crd.d l i).many.toNat)), .cells [.p (.int .i64 (gt Crd.d l i).number), .p (.int .i64 (gt Crd.d l i).hour), .p (.int .i64 (gt Crd.d l i).shade), .p (.int .i64 (gt Crd.d l i).places), .p (.int .i64 (gt Crd.d l i).many)] 76] = [(wC 62 0 1 (((((((crdH l ++ crdsT 0 (l.take i)) ++ longT ((gt Crd.d l i).number - nxtC l i).toNat) ++ longT (gt Crd.d l i).hour.toNat) ++ [UInt8.ofNat (gt Crd.d l i).shade.toNat]) ++ [UInt8.ofNat (gt Crd.d l i).places.toNat]) ++ longT (gt Crd.d l i).many.toNat))), (wF 5 (((((((crdH l ++ crdsT 0 (l.take i)) ++ longT ((gt Crd.d l i).number - nxtC l i).toNat) ++ longT (gt Crd.d l i).hour.toNat) ++ [UInt8.ofNat (gt Crd.d l i).shade.toNat]) ++ [UInt8.ofNat (gt Crd.d l i).places.toNat]) ++ longT (gt Crd.d l i).many.toNat))), .cells [.p (.int .i64 (gt Crd.d l i).number), .p (.int .i64 (gt Crd.d l i).hour), .p (.int .i64 (gt Crd.d l i).shade), .p (.int .i64 (gt Crd.d l i).places), .p (.int .i64 (gt Crd.d l i).many)] 76]; rw [wC_ren (σ := pl [0, 3, 2]) (i := 0) (j := 3) (i' := 0) (j' := 1) rfl rfl, wF_ren]) ?_
      refine AWp.region ?_
      refine AList.c 54 rfl rfl rfl (OpJ.fieldAddr rfl rfl fd76_0 rfl) ?_
      refine AList.c 55 rfl rfl rfl (OpJ.load (v := .p (.int .i64 (gt Crd.d l i).number)) rfl rfl ty3 rfl) ?_
      refine AList.c 56 rfl rfl rfl (OpJ.add rfl rfl rfl (i64ok ?_)) ?_
      · omega
      refine AList.c 7 rfl rfl rfl (OpJ.assign rfl rfl) ?_
      refine AList.nil ?_
      refine AWp.region ?_
      refine AList.c 57 rfl rfl rfl (OpJ.add rfl rfl rfl (i64ok ?_)) ?_
      · omega
      refine AList.c 29 rfl rfl rfl (OpJ.move rfl rfl) ?_
      refine AList.nil ?_
      refine ⟨i + 1, ?_, ?_, ?_⟩
      · exact hk0
      · omega
      exact To.done [0, 1] rfl (by repeat (first | exact Sub.nil | refine Sub.cons rfl ?_)) (by show [renB (pl [0, 1]) (wC 62 0 1 (((((((crdH l ++ crdsT 0 (l.take i)) ++ longT ((gt Crd.d l i).number - nxtC l i).toNat) ++ longT (gt Crd.d l i).hour.toNat) ++ [UInt8.ofNat (gt Crd.d l i).shade.toNat]) ++ [UInt8.ofNat (gt Crd.d l i).places.toNat]) ++ longT (gt Crd.d l i).many.toNat))), renB (pl [0, 1]) (wF 5 (((((((crdH l ++ crdsT 0 (l.take i)) ++ longT ((gt Crd.d l i).number - nxtC l i).toNat) ++ longT (gt Crd.d l i).hour.toNat) ++ [UInt8.ofNat (gt Crd.d l i).shade.toNat]) ++ [UInt8.ofNat (gt Crd.d l i).places.toNat]) ++ longT (gt Crd.d l i).many.toNat)))] = [(wC 62 0 1 (crdH l ++ crdsT 0 (l.take (i + 1)))), (wF 5 (crdH l ++ crdsT 0 (l.take (i + 1))))]; rw [wC_ren (σ := pl [0, 1]) (i := 0) (j := 1) (i' := 0) (j' := 1) rfl rfl, wF_ren, hst]; simp only [crdT, List.append_assoc])
    · skip
      have hi : i = l.length := by have h := of_decide_eq_false hc1; omega
      subst hi
      rw [List.take_length]
      have hH : (crdH l).length = 4 := rfl
      refine AWp.exit ?_
      refine AWp.seq ?_
      refine AWp.region ?_
      refine AList.c 58 rfl rfl rfl (OpJ.fieldAddr rfl rfl fd62_0 rfl) ?_
      refine AList.c 59 rfl rfl rfl (OpJ.fieldAddr rfl rfl fd62_0 rfl) ?_
      refine AList.callX 60 (bstr_ok (crdsTT l) (by simp only [crdsTT, List.length_append]; omega)) rfl rfl rfl rfl rfl rfl rfl rf22 (fun v H2 hQ2 => ?_)
      obtain ⟨rfl, rfl⟩ := hQ2
      refine AList.c 61 rfl rfl rfl (OpJ.callP (sum_ok (crdsTT l) ?_) rfl rfl rfl rfl rf28) ?_
      · simp only [crdsTT, List.length_append]; omega
      refine AList.callW 62 0 1 (wbyte_ok _ (sumB (crdsTT l)) (by simp only [crdsTT, List.length_append, List.length_singleton]; omega)) (by decide) rfl rfl rfl rfl rfl rfl rfl rfl rfl rf26 ?_
      refine AList.nil ?_
      refine AWp.seq ?_
      refine AWp.norm [0, 2] [(3, _), (5, _)] [(wC 62 0 1 (crdsTT l ++ [sumB (crdsTT l)])), (wF 5 (crdsTT l ++ [sumB (crdsTT l)]))] rfl (by repeat (first | exact Sub.nil | refine Sub.cons rfl ?_)) (by show [renB (pl [0, 2]) (wC 62 0 2 (crdsTT l ++ [sumB (crdsTT l)])), renB (pl [0, 2]) (wF 5 (crdsTT l ++ [sumB (crdsTT l)]))] = [(wC 62 0 1 (crdsTT l ++ [sumB (crdsTT l)])), (wF 5 (crdsTT l ++ [sumB (crdsTT l)]))]; rw [wC_ren (σ := pl [0, 2]) (i := 0) (j := 2) (i' := 0) (j' := 1) rfl rfl, wF_ren]) ?_
      refine AWp.region ?_
      refine AList.c 63 rfl rfl rfl (OpJ.fieldAddr rfl rfl fd62_0 rfl) ?_
      refine AList.callX 64 (bstr_ok (crdsTT l ++ [sumB (crdsTT l)]) (by simp only [crdsTT, List.length_append, List.length_singleton]; omega)) rfl rfl rfl rfl rfl rfl rfl rf22 (fun v H2 hQ2 => ?_)
      obtain ⟨rfl, rfl⟩ := hQ2
      refine AList.c 2 rfl rfl rfl (OpJ.assign rfl rfl) ?_
      refine AList.c 3 rfl rfl rfl (OpJ.assign rfl rfl) ?_
      refine AList.nil ?_
      refine AWp.ret ?_
      refine Fin.manyE (xs := [.str (sB (crdsTT l ++ [sumB (crdsTT l)])), .int .i64 0]) rfl ⟨_, _, rfl, rfl, ⟨_, _, rfl, rfl, rfl⟩⟩ rfl ?_
      rw [wrC_yes hz]
end Go.Proofs.YtplofbjppcbchaaDoor
end

section
set_option linter.unusedVariables false
set_option maxRecDepth 100000
set_option maxHeartbeats 4000000
set_option linter.unusedSimpArgs false
namespace Go.Proofs.YtplofbjppcbchaaDoor
open Go.AF
theorem items_seq (l : List Int) (hl : l.length ≤ 1000) (hc : ∀ c ∈ l, 0 ≤ c ∧ c ≤ 99) : ASeq Tryd.prog 62 (fun y => [y, .p (.ip [intsV l] 0)]) (itmX (grp l)) := by
  intro lx κ nn inv fin hκ hnn hfin hb h0 hi0
  refine ACallsK.of_body (N := 105) Tryd.func62 rfl rfl (Nat.le_of_ble_eq_true rfl) ?_
  have hG := grp_ok l l.length (Nat.le_refl _) hc
  rw [List.take_length] at hG
  refine AWp.seq ?_
  refine AWp.region ?_
  refine AList.c 3 rfl rfl rfl (OpJ.assign rfl rfl) ?_
  refine AList.nil ?_
  refine AWp.seq ?_
  refine AWp.loc [(0, _), (1, _), (3, _)] (by repeat (first | exact Sub.nil | refine Sub.cons rfl ?_)) ⟨⟨_, rfl⟩, ⟨_, rfl⟩, ⟨_, rfl⟩, trivial⟩ ?_
  refine AWp.seq ?_
  refine AWp.region ?_
  refine AList.c 10 rfl rfl rfl (OpJ.load (v := .p (intsV l)) rfl rfl ty34 rfl) ?_
  refine AList.c 11 rfl rfl rfl (OpJ.lenSlice rfl rfl sl34 rfl) ?_
  refine AList.c 12 rfl rfl rfl (OpJ.move rfl rfl) ?_
  refine AList.nil ?_
  refine AWp.block ?_
  refine AWp.loopHL [0, 7, 8, 9, 10, 11, 46, 47, 48, 49, 50, 51, 52, 53, 54, 55, 56, 57, 58, 59, 60, 61, 62, 63, 64, 65, 66, 67, 68, 69, 70, 71, 72, 73, 74, 75, 76, 77, 78, 79, 80, 81, 82, 83, 84, 85, 86, 87, 88, 89, 90, 91, 92, 93, 94, 95, 96, 97, 98, 99, 100, 101, 102, 103, 104] (fun g => [(12, .p (.int .i64 ((g : Nat) : Int))), (3, accV 0 (grp (l.take g)).length)]) (fun g => [accB (((grp (l.take g)).flatMap Itm.cells).map .p) 84 (grp (l.take g)).length]) (fun g => g ≤ l.length) (fun g => l.length - g) 0 (Nat.zero_le _) (To.pad.trans (To.sub (Sub.chk (Sub.cons rfl (Sub.cons rfl Sub.nil))))) (fun i hg => ?_)
  refine AWp.seq ?_
  refine AWp.region ?_
  refine AList.c 13 rfl rfl rfl (OpJ.lss rfl rfl rfl) ?_
  refine AList.nil ?_
  refine AWp.seq ?_
  refine AWp.cond _ rfl (fun hc0 => ?_) (fun hc0 => ?_)
  · skip
    have hk0 : i < l.length := by have h := of_decide_eq_true hc0; omega
    have hAk := grp_ok l i (by omega) hc
    have hA := hAk.1
    refine AWp.skip ?_
    refine AWp.seq ?_
    refine AWp.block ?_
    refine AWp.seq ?_
    refine AWp.region ?_
    refine AList.c 14 rfl rfl rfl (OpJ.indexG (g := gt 0 l) (gt_get _) rfl rfl rfl sl34 el34 rfl (fun _ => rfl) (by decide) hk0) ?_
    refine AList.c 15 rfl rfl rfl (OpJ.load (v := .p (.int .i64 (gt 0 l i))) rfl rfl ty3 rfl) ?_
    refine AList.c 5 rfl rfl rfl (OpJ.assign rfl rfl) ?_
    refine AList.nil ?_
    refine AWp.seq ?_
    refine AWp.region ?_
    refine AList.c 16 rfl rfl rfl (OpJ.move rfl rfl) ?_
    refine AList.c 17 rfl rfl rfl (OpJ.lenSlice rfl rfl sl122 (alen_acc _ _)) ?_
    refine AList.c 6 rfl rfl rfl (OpJ.assign rfl rfl) ?_
    refine AList.nil ?_
    refine AWp.seq ?_
    refine AWp.region ?_
    refine AList.c 18 rfl rfl rfl (OpJ.move rfl rfl) ?_
    refine AList.c 19 rfl rfl rfl (OpJ.gtr rfl rfl rfl) ?_
    refine AList.c 20 rfl rfl rfl (OpJ.move rfl rfl) ?_
    refine AList.g 21 20 rfl rfl rfl rfl rfl rfl rfl [(3, _)] (fun h => And.intro (.inl rfl) (trivial)) (fun h => (OpJ.move rfl rfl)) ?_
    refine AList.g 22 20 rfl rfl rfl rfl rfl rfl rfl [(6, _)] (fun h => And.intro (.inl rfl) (trivial)) (fun h => (OpJ.move rfl rfl)) ?_
    refine AList.g 23 20 rfl rfl rfl rfl rfl rfl rfl [(22, _)] (fun h => And.intro (.inr ⟨_, rfl, h⟩) (trivial)) (fun h => (OpJ.sub_ (m := (((grp (l.take i)).length - 1 : Nat) : Int)) rfl rfl rfl ((i64ok (by have h2 := of_decide_eq_true (eq_of_beq h); omega)).trans (by have h2 := of_decide_eq_true (eq_of_beq h); omega)))) ?_
    refine AList.g 24 20 rfl rfl rfl rfl rfl rfl rfl [(21, _), (23, _)] (fun h => And.intro (.inr ⟨_, rfl, h⟩) (And.intro (.inr ⟨_, rfl, h⟩) (trivial))) (fun h => (OpJ.indexAcc rfl rfl rfl sl122 el122 (by have h2 := of_decide_eq_true (eq_of_beq h); omega))) ?_
    refine AList.g 25 20 rfl rfl rfl rfl rfl rfl rfl [(24, _)] (fun h => And.intro (.inr ⟨_, rfl, h⟩) (trivial)) (fun h => (OpJ.fieldAddr rfl rfl fd84_0 rfl)) ?_
    refine AList.g 26 20 rfl rfl rfl rfl rfl rfl rfl [(25, _)] (fun h => And.intro (.inr ⟨_, rfl, h⟩) (trivial)) (fun h => (OpJ.loadFlat (f := Itm.cells) (c := 3) (k := (grp (l.take i)).length - 1) (j := 0) (xs := (grp (l.take i))) (v := .int .i64 (gt Itm.d (grp (l.take i)) ((grp (l.take i)).length - 1)).fr) rfl rfl ty3 rfl (acc_blk (by have h2 := of_decide_eq_true (eq_of_beq h); omega)) rfl (fun _ => rfl) (by have h2 := of_decide_eq_true (eq_of_beq h); omega) (by decide) (by rw [gt_get Itm.d _ (by have h2 := of_decide_eq_true (eq_of_beq h); omega)]; rfl))) ?_
    refine AList.g 27 20 rfl rfl rfl rfl rfl rfl rfl [(5, _)] (fun h => And.intro (.inl rfl) (trivial)) (fun h => (OpJ.move rfl rfl)) ?_
    refine AList.g 28 20 rfl rfl rfl rfl rfl rfl rfl [(26, _), (27, _)] (fun h => And.intro (.inr ⟨_, rfl, h⟩) (And.intro (.inr ⟨_, rfl, h⟩) (trivial))) (fun h => (OpJ.eql rfl rfl rfl)) ?_
    refine AList.c 29 rfl rfl rfl (OpJ.and_ rfl rfl rfl ?_) ?_
    · first | (intro h; rw [h]; rfl) | (intro h; simp_all)
    refine AList.nil ?_
    refine AWp.cond _ rfl (fun hc1 => ?_) (fun hc1 => ?_)
    · skip
      have hq := hc1
      simp only [Bool.and_eq_true, decide_eq_true_eq] at hq
      have hp0 : 0 < (grp (l.take i)).length := by omega
      have hfr : (gt Itm.d (grp (l.take i)) ((grp (l.take i)).length - 1)).fr = gt 0 l i := hq.2
      have hmy := (hAk.2 _ (gt_mem Itm.d (show (grp (l.take i)).length - 1 < (grp (l.take i)).length by omega))).2.2.2
      refine AWp.region ?_
      refine AList.c 30 rfl rfl rfl (OpJ.move rfl rfl) ?_
      refine AList.c 31 rfl rfl rfl (OpJ.move rfl rfl) ?_
      refine AList.c 32 rfl rfl rfl (OpJ.sub_ (m := (((grp (l.take i)).length - 1 : Nat) : Int)) rfl rfl rfl ((i64ok ?_).trans ?_)) ?_
      · omega
      · omega
      refine AList.c 33 rfl rfl rfl (OpJ.indexAcc rfl rfl rfl sl122 el122 (by omega)) ?_
      refine AList.c 34 rfl rfl rfl (OpJ.fieldAddr rfl rfl fd84_2 rfl) ?_
      refine AList.c 35 rfl rfl rfl (OpJ.loadFlat (f := Itm.cells) (c := 3) (k := (grp (l.take i)).length - 1) (j := 2) (xs := (grp (l.take i))) (v := .int .i64 (((gt Itm.d (grp (l.take i)) ((grp (l.take i)).length - 1)).many : Nat) : Int)) rfl rfl ty3 rfl (acc_blk (by omega)) rfl (fun _ => rfl) (by omega) (by decide) (by rw [gt_get Itm.d _ (by omega)]; rfl)) ?_
      refine AList.c 36 rfl rfl rfl (OpJ.add (m := (((gt Itm.d (grp (l.take i)) ((grp (l.take i)).length - 1)).many + 1 : Nat) : Int)) rfl rfl rfl ((i64ok ?_).trans ?_)) ?_
      · omega
      · omega
      refine AList.c 37 rfl rfl rfl (OpJ.indexAcc rfl rfl rfl sl122 el122 (by omega)) ?_
      refine AList.c 38 rfl rfl rfl (OpJ.fieldAddr rfl rfl fd84_2 rfl) ?_
      refine AList.c0 rfl rfl (OpJ.storeAcc (f := Itm.cells) (c := 3) (k := (grp (l.take i)).length - 1) (j := 2) (xs := (grp (l.take i))) (z := ⟨(gt Itm.d (grp (l.take i)) ((grp (l.take i)).length - 1)).fr, (gt Itm.d (grp (l.take i)) ((grp (l.take i)).length - 1)).to, (gt Itm.d (grp (l.take i)) ((grp (l.take i)).length - 1)).many + 1⟩) (ws := [.int .i64 (((gt Itm.d (grp (l.take i)) ((grp (l.take i)).length - 1)).many + 1 : Nat) : Int)]) rfl rfl rfl rfl rfl ty3 rfl rfl rfl hp0 rfl (fun _ => rfl) (by omega) (by show 2 + 1 ≤ 3; decide) (by rw [gt_get Itm.d _ (by omega)]; rfl)) ?_
      refine AList.nil ?_
      refine AWp.region ?_
      refine AList.c 45 rfl rfl rfl (OpJ.add rfl rfl rfl (i64ok ?_)) ?_
      · omega
      refine AList.c 12 rfl rfl rfl (OpJ.move rfl rfl) ?_
      refine AList.nil ?_
      refine ⟨i + 1, ?_, ?_, ?_⟩
      · exact hk0
      · omega
      have eA := (grp_step l i hk0).trans (addC_yes hp0 hfr)
      refine To.done [0] rfl (Sub.cons rfl (Sub.cons ?_ (by repeat (first | exact Sub.nil | refine Sub.cons rfl ?_)))) ?_
      · rw [eA, List.length_set]; exact congrArg some (accV_renI rfl)
      · show [renB _ (accB _ _ _)] = _
        rw [accB_ren, eA, List.length_set]
    · skip
      have hno : ¬ (0 < (grp (l.take i)).length ∧ (gt Itm.d (grp (l.take i)) ((grp (l.take i)).length - 1)).fr = gt 0 l i) := fun h => by simp only [Bool.and_eq_false_iff, decide_eq_false_iff_not] at hc1; rcases hc1 with h1 | h1; omega; exact h1 h.2
      refine AWp.region ?_
      refine AList.c 39 rfl rfl rfl (OpJ.move rfl rfl) ?_
      refine AList.c 40 rfl rfl rfl (OpJ.move rfl rfl) ?_
      refine AList.c 41 rfl rfl rfl (OpJ.move rfl rfl) ?_
      refine AList.c 42 rfl rfl rfl (OpJ.build rfl bd84 rfl rfl) ?_
      refine AList.c 43 rfl rfl rfl (OpJ.buildImm rfl slz122 (by decide) rfl rfl rfl) ?_
      refine AList.c 44 rfl rfl rfl (OpJ.appendAcc rfl rfl rfl slz122 sl122 rfl ?_ rfl (by decide) rfl by84 (by decide) ?_) ?_
      · rw [List.length_map, itm_len]; rfl
      · omega
      refine AList.c 3 rfl rfl rfl (OpJ.assign rfl rfl) ?_
      refine AList.nil ?_
      refine AWp.region ?_
      refine AList.c 45 rfl rfl rfl (OpJ.add rfl rfl rfl (i64ok ?_)) ?_
      · omega
      refine AList.c 12 rfl rfl rfl (OpJ.move rfl rfl) ?_
      refine AList.nil ?_
      refine ⟨i + 1, ?_, ?_, ?_⟩
      · exact hk0
      · omega
      have eA := (grp_step l i hk0).trans (addC_no hno)
      refine To.done [1] rfl (Sub.cons rfl (Sub.cons ?_ (by repeat (first | exact Sub.nil | refine Sub.cons rfl ?_)))) ?_
      · rw [eA, List.length_append]; rfl
      · rw [eA, List.length_append]
        exact items_row2 (grp (l.take i)) ⟨gt 0 l i, gt 0 l i, 1⟩
  · skip
    obtain rfl : i = l.length := by have h := of_decide_eq_false hc0; omega
    rw [List.take_length]
    refine AWp.to (To.accD 3 0 _ rfl rfl (fun h => by rw [List.eq_nil_of_length_eq_zero h]; rfl)) ?_
    refine AWp.exit ?_
    refine ⟨rfl, [(0, _), (3, .p (itmsV (grp l)))], (by repeat (first | exact Sub.nil | refine Sub.cons rfl ?_)), ⟨⟨_, rfl⟩, ⟨_, rfl⟩, trivial⟩, ?_⟩
    refine AWp.seq ?_
    refine AWp.region ?_
    refine AList.c 7 rfl rfl rfl (OpJ.assign rfl rfl) ?_
    refine AList.nil ?_
    refine AWp.block ?_
    refine AWp.loopHL [0, 3] (fun g => [(7, .p (.int .i64 ((g.1 : Nat) : Int)))]) (fun g => g.2.2) (fun g => g.1 ≤ (grp l).length ∧ inv g.2.1 g.2.2 ∧ itm ((grp l).drop g.1) = (itm (grp l)).drop g.2.1 ∧ g.2.1 ≤ (itm (grp l)).length) (fun g => (grp l).length - g.1) (0, 0, h0) ⟨Nat.zero_le _, hi0, rfl, Nat.zero_le _⟩ (To.sub (Sub.chk (Sub.cons rfl (Sub.nil)))) (fun g hg => ?_)
    obtain ⟨i, dn, hcur⟩ := g
    obtain ⟨hi, hinv, hdr, hdn⟩ := hg
    dsimp only at hi hinv hdr hdn ⊢
    have hln := hnn _ _ hinv
    refine AWp.of_wf fun hw => ?_
    refine AWp.seq ?_
    refine AWp.seq ?_
    refine AWp.region ?_
    refine AList.c 46 rfl rfl rfl (OpJ.move rfl rfl) ?_
    refine AList.c 47 rfl rfl rfl (OpJ.move rfl rfl) ?_
    refine AList.c 48 rfl rfl rfl (OpJ.lenSlice rfl rfl sl122 rfl) ?_
    refine AList.c 49 rfl rfl rfl (OpJ.lss rfl rfl rfl) ?_
    refine AList.nil ?_
    refine AWp.cond _ rfl (fun hc2 => ?_) (fun hc2 => ?_)
    · skip
      have hk2 : i < (grp l).length := by have h := of_decide_eq_true hc2; omega
      obtain ⟨hx0, hx1, hxt, hxm⟩ := hG.2 _ (gt_mem Itm.d hk2)
      have hGl := hG.1
      refine AWp.skip ?_
      refine AWp.block ?_
      refine AWp.seq ?_
      refine AWp.region ?_
      refine AList.c 50 rfl rfl rfl (OpJ.move rfl rfl) ?_
      refine AList.c 51 rfl rfl rfl (OpJ.move rfl rfl) ?_
      refine AList.c 52 rfl rfl rfl (OpJ.indexG (g := gt Itm.d (grp l)) (gt_get _) rfl rfl rfl sl122 el122 rfl (fun _ => rfl) (by decide) hk2) ?_
      refine AList.c 53 rfl rfl rfl (OpJ.load (v := .p (.agg (gt Itm.d (grp l) i).cells)) rfl rfl ty84 rfl) ?_
      refine AList.c 54 rfl rfl rfl (OpJ.move rfl rfl) ?_
      refine AList.c 55 rfl rfl rfl (OpJ.add (m := ((i + 1 : Nat) : Int)) rfl rfl rfl ((i64ok ?_).trans ?_)) ?_
      · omega
      · omega
      refine AList.c 8 rfl rfl rfl (OpJ.allocOwn rfl zr84 rfl) ?_
      refine AList.c0 rfl rfl (OpJ.store (H' := (hcur ++ [.cells [.p (.int .i64 (gt Itm.d (grp l) i).fr), .p (.int .i64 (gt Itm.d (grp l) i).to), .p (.int .i64 (((gt Itm.d (grp l) i).many : Nat) : Int))] 84])) rfl rfl rfl rfl rfl ty84 rfl (astore_last (vs := [.p (.int .i64 (gt Itm.d (grp l) i).fr), .p (.int .i64 (gt Itm.d (grp l) i).to), .p (.int .i64 (((gt Itm.d (grp l) i).many : Nat) : Int))]) (by rfl))) ?_
      refine AList.c 9 rfl rfl rfl (OpJ.assign rfl rfl) ?_
      refine AList.nil ?_
      refine AWp.seq ?_
      refine AWp.block ?_
      refine AWp.loopHL [0, 3, 7, 8, 46, 47, 48, 49, 50, 51, 52, 53, 54, 55, 87, 88, 89, 90, 91, 92, 93, 94, 95, 96, 97, 98, 99, 100, 101, 102, 103, 104] (fun g => [(9, .p (.int .i64 ((g : Nat) : Int)))]) (fun g => (hcur ++ [.cells [.p (.int .i64 (gt Itm.d (grp l) i).fr), .p (.int .i64 (gt Itm.d (grp l) i).to), .p (.int .i64 (((gt Itm.d (grp l) i).many : Nat) : Int))] 84])) (fun g => i + 1 ≤ g ∧ g ≤ (grp l).length ∧ ((gt Itm.d (grp l) i).many = 1 ∨ g = i + 1) ∧ ∀ j, i + 1 ≤ j → j < g → gt Itm.d (grp l) j = ⟨(gt Itm.d (grp l) i).fr + (j : Int) - (i : Int), (gt Itm.d (grp l) i).fr + (j : Int) - (i : Int), 1⟩) (fun g => (grp l).length - g) (i + 1) ⟨Nat.le_refl _, hk2, .inr rfl, fun j h1 h2 => absurd h2 (by omega)⟩ (To.sub (Sub.chk (Sub.cons rfl (Sub.nil)))) (fun e ⟨he1, he2, hem, her⟩ => ?_)
      refine AWp.seq ?_
      refine AWp.seq ?_
      refine AWp.regionDraw 29 mixed (by kernel_rfl) (by decide) ?_
      refine AQuiet.cons 56 rfl rfl rfl (OpJ.fieldAddr rfl rfl fd84_2 rfl) ?_
      refine AQuiet.cons 57 rfl rfl rfl (OpJ.load (v := .p (.int .i64 (((gt Itm.d (grp l) i).many : Nat) : Int))) rfl rfl ty3 (aload_last rfl)) ?_
      refine AQuiet.cons 58 rfl rfl rfl (OpJ.eql rfl rfl rfl) ?_
      refine AQuiet.cons 59 rfl rfl rfl (OpJ.move rfl rfl) ?_
      refine AQuiet.guard 60 59 rfl rfl rfl rfl rfl rfl rfl [(9, _)] (fun h => And.intro (.inl rfl) (trivial)) (fun h => (OpJ.move rfl rfl)) ?_
      refine AQuiet.guard 61 59 rfl rfl rfl rfl rfl rfl rfl [(3, _)] (fun h => And.intro (.inl rfl) (trivial)) (fun h => (OpJ.move rfl rfl)) ?_
      refine AQuiet.guard 62 59 rfl rfl rfl rfl rfl rfl rfl [(61, _)] (fun h => And.intro (.inr ⟨_, rfl, h⟩) (trivial)) (fun h => (OpJ.lenSlice rfl rfl sl122 rfl)) ?_
      refine AQuiet.guard 63 59 rfl rfl rfl rfl rfl rfl rfl [(60, _), (62, _)] (fun h => And.intro (.inr ⟨_, rfl, h⟩) (And.intro (.inr ⟨_, rfl, h⟩) (trivial))) (fun h => (OpJ.lss rfl rfl rfl)) ?_
      refine AQuiet.cons 64 rfl rfl rfl (OpJ.and_ rfl rfl rfl ?_) ?_
      · first | (intro h; rw [h]; rfl) | (intro h; simp_all)
      refine AQuiet.cons 65 rfl rfl rfl (OpJ.move rfl rfl) ?_
      refine AQuiet.guard 66 65 rfl rfl rfl rfl rfl rfl rfl [(3, _)] (fun h => And.intro (.inl rfl) (trivial)) (fun h => (OpJ.move rfl rfl)) ?_
      refine AQuiet.guard 67 65 rfl rfl rfl rfl rfl rfl rfl [(9, _)] (fun h => And.intro (.inl rfl) (trivial)) (fun h => (OpJ.move rfl rfl)) ?_
      refine AQuiet.guard 68 65 rfl rfl rfl rfl rfl rfl rfl [(66, _), (67, _)] (fun h => And.intro (.inr ⟨_, rfl, h⟩) (And.intro (.inr ⟨_, rfl, h⟩) (trivial))) (fun h => (OpJ.indexG (g := gt Itm.d (grp l)) (gt_get _) rfl rfl rfl sl122 el122 rfl (fun _ => rfl) (by decide) (by have h2 := eq_of_beq h; simp only [Bool.and_eq_true, decide_eq_true_eq] at h2; omega))) ?_
      refine AQuiet.guard 69 65 rfl rfl rfl rfl rfl rfl rfl [(68, _)] (fun h => And.intro (.inr ⟨_, rfl, h⟩) (trivial)) (fun h => (OpJ.load (v := .p (.agg (gt Itm.d (grp l) e).cells)) rfl rfl ty84 rfl)) ?_
      refine AQuiet.guard 70 65 rfl rfl rfl rfl rfl rfl rfl [(8, _)] (fun h => And.intro (.inl rfl) (trivial)) (fun h => (OpJ.fieldAddr rfl rfl fd84_0 rfl)) ?_
      refine AQuiet.guard 71 65 rfl rfl rfl rfl rfl rfl rfl [(70, _)] (fun h => And.intro (.inr ⟨_, rfl, h⟩) (trivial)) (fun h => (OpJ.load (v := .p (.int .i64 (gt Itm.d (grp l) i).fr)) rfl rfl ty3 (aload_last rfl))) ?_
      refine AQuiet.guard 72 65 rfl rfl rfl rfl rfl rfl rfl [(9, _)] (fun h => And.intro (.inl rfl) (trivial)) (fun h => (OpJ.move rfl rfl)) ?_
      refine AQuiet.guard 73 65 rfl rfl rfl rfl rfl rfl rfl [(71, _), (72, _)] (fun h => And.intro (.inr ⟨_, rfl, h⟩) (And.intro (.inr ⟨_, rfl, h⟩) (trivial))) (fun h => (OpJ.add rfl rfl rfl (i64ok (by omega)))) ?_
      refine AQuiet.guard 74 65 rfl rfl rfl rfl rfl rfl rfl [(7, _)] (fun h => And.intro (.inl rfl) (trivial)) (fun h => (OpJ.move rfl rfl)) ?_
      refine AQuiet.guard 75 65 rfl rfl rfl rfl rfl rfl rfl [(73, _), (74, _)] (fun h => And.intro (.inr ⟨_, rfl, h⟩) (And.intro (.inr ⟨_, rfl, h⟩) (trivial))) (fun h => (OpJ.sub_ rfl rfl rfl (i64ok (by omega)))) ?_
      refine AQuiet.guard 76 65 rfl rfl rfl rfl rfl rfl rfl [(8, _)] (fun h => And.intro (.inl rfl) (trivial)) (fun h => (OpJ.fieldAddr rfl rfl fd84_0 rfl)) ?_
      refine AQuiet.guard 77 65 rfl rfl rfl rfl rfl rfl rfl [(76, _)] (fun h => And.intro (.inr ⟨_, rfl, h⟩) (trivial)) (fun h => (OpJ.load (v := .p (.int .i64 (gt Itm.d (grp l) i).fr)) rfl rfl ty3 (aload_last rfl))) ?_
      refine AQuiet.guard 78 65 rfl rfl rfl rfl rfl rfl rfl [(9, _)] (fun h => And.intro (.inl rfl) (trivial)) (fun h => (OpJ.move rfl rfl)) ?_
      refine AQuiet.guard 79 65 rfl rfl rfl rfl rfl rfl rfl [(77, _), (78, _)] (fun h => And.intro (.inr ⟨_, rfl, h⟩) (And.intro (.inr ⟨_, rfl, h⟩) (trivial))) (fun h => (OpJ.add rfl rfl rfl (i64ok (by omega)))) ?_
      refine AQuiet.guard 80 65 rfl rfl rfl rfl rfl rfl rfl [(7, _)] (fun h => And.intro (.inl rfl) (trivial)) (fun h => (OpJ.move rfl rfl)) ?_
      refine AQuiet.guard 81 65 rfl rfl rfl rfl rfl rfl rfl [(79, _), (80, _)] (fun h => And.intro (.inr ⟨_, rfl, h⟩) (And.intro (.inr ⟨_, rfl, h⟩) (trivial))) (fun h => (OpJ.sub_ rfl rfl rfl (i64ok (by omega)))) ?_
      refine AQuiet.guard 82 65 rfl rfl rfl rfl rfl rfl rfl [(75, _), (81, _)] (fun h => And.intro (.inr ⟨_, rfl, h⟩) (And.intro (.inr ⟨_, rfl, h⟩) (trivial))) (fun h => (OpJ.buildR (v := .p (.agg [.int .i64 ((gt Itm.d (grp l) i).fr + (e : Int) - (i : Int)), .int .i64 ((gt Itm.d (grp l) i).fr + (e : Int) - (i : Int)), .int .i64 1])) rfl bd84 rfl rfl rfl)) ?_
      refine AQuiet.guard 83 65 rfl rfl rfl rfl rfl rfl rfl [(69, _), (82, _)] (fun h => And.intro (.inr ⟨_, rfl, h⟩) (And.intro (.inr ⟨_, rfl, h⟩) (trivial))) (fun h => (OpJ.eqAgg (d := 8) rfl (.inl rfl) rfl rfl (by decide) eq84 ty84 rfl eg84 rfl)) ?_
      refine AQuiet.cons 84 rfl rfl rfl (OpJ.and_ rfl rfl rfl ?_) ?_
      · first | (intro h; rw [h]; rfl) | (intro h; simp_all)
      refine AQuiet.nil ?_
      refine AList.nil ?_
      refine AWp.cond _ rfl (fun hc3 => ?_) (fun hc3 => ?_)
      · skip
        have hq : (gt Itm.d (grp l) i).many = 1 ∧ e < (grp l).length ∧ gt Itm.d (grp l) e = ⟨(gt Itm.d (grp l) i).fr + (e : Int) - (i : Int), (gt Itm.d (grp l) i).fr + (e : Int) - (i : Int), 1⟩ := itm_c3 hc3
        refine AWp.skip ?_
        refine AWp.block ?_
        refine AWp.region ?_
        refine AList.c 85 rfl rfl rfl (OpJ.move rfl rfl) ?_
        refine AList.c 86 rfl rfl rfl (OpJ.add (m := ((e + 1 : Nat) : Int)) rfl rfl rfl ((i64ok ?_).trans ?_)) ?_
        · omega
        · omega
        refine AList.c 9 rfl rfl rfl (OpJ.assign rfl rfl) ?_
        refine AList.nil ?_
        refine ⟨e + 1, ?_, ?_, ?_⟩
        · exact ⟨by omega, hq.2.1, .inl hq.1, fun j h1 h2 => by rcases Nat.lt_succ_iff_lt_or_eq.1 h2 with h | rfl; exact her j h1 h; exact hq.2.2⟩
        · omega
        exact To.sub (Sub.cons rfl (by repeat (first | exact Sub.nil | refine Sub.cons rfl ?_)))
      · skip
        have hk3 := run_end he1 he2 hem her (fun h => itm_c3n hc3 h)
        refine AWp.exit ?_
        refine AWp.seq ?_
        refine AWp.seq ?_
        refine AWp.region ?_
        refine AList.c 87 rfl rfl rfl (OpJ.move rfl rfl) ?_
        refine AList.c 88 rfl rfl rfl (OpJ.move rfl rfl) ?_
        refine AList.c 89 rfl rfl rfl (OpJ.sub_ rfl rfl rfl (i64ok ?_)) ?_
        · omega
        refine AList.c 90 rfl rfl rfl (OpJ.lss rfl rfl rfl) ?_
        refine AList.nil ?_
        refine AWp.cond _ rfl (fun hc4 => ?_) (fun hc4 => ?_)
        · skip
          have h3e : e < i + 3 := by have h := of_decide_eq_true hc4; omega
          obtain ⟨hat0, hnx⟩ := itm_short hk2 hk3 h3e hdr
          have hat : (itm (grp l))[dn]? = some ⟨(gt Itm.d (grp l) i).fr, (gt Itm.d (grp l) (i + 1 - 1)).to, (gt Itm.d (grp l) i).many⟩ := hat0
          refine AWp.region ?_
          refine AList.c 91 rfl rfl rfl (OpJ.move rfl rfl) ?_
          refine AList.c 92 rfl rfl rfl (OpJ.add (m := ((i + 1 : Nat) : Int)) rfl rfl rfl ((i64ok ?_).trans ?_)) ?_
          · omega
          · omega
          refine AList.c 9 rfl rfl rfl (OpJ.assign rfl rfl) ?_
          refine AList.nil ?_
          refine AWp.seq ?_
          refine AWp.region ?_
          refine AList.c 93 rfl rfl rfl (OpJ.move rfl rfl) ?_
          refine AList.c 94 rfl rfl rfl (OpJ.move rfl rfl) ?_
          refine AList.c 95 rfl rfl rfl (OpJ.sub_ (m := (((i + 1) - 1 : Nat) : Int)) rfl rfl rfl ((i64ok ?_).trans ?_)) ?_
          · omega
          · omega
          refine AList.c 96 rfl rfl rfl (OpJ.indexG (g := gt Itm.d (grp l)) (gt_get _) rfl rfl rfl sl122 el122 rfl (fun _ => rfl) (by decide) (by omega)) ?_
          refine AList.c 97 rfl rfl rfl (OpJ.fieldAddr rfl rfl fd84_1 rfl) ?_
          refine AList.c 98 rfl rfl rfl (OpJ.load (v := .p (.int .i64 (gt Itm.d (grp l) ((i + 1) - 1)).to)) rfl rfl ty3 rfl) ?_
          refine AList.c 99 rfl rfl rfl (OpJ.fieldAddr rfl rfl fd84_1 rfl) ?_
          refine AList.c0 rfl rfl (OpJ.store (H' := (hcur ++ [.cells [.p (.int .i64 (gt Itm.d (grp l) i).fr), .p (.int .i64 (gt Itm.d (grp l) ((i + 1) - 1)).to), .p (.int .i64 (((gt Itm.d (grp l) i).many : Nat) : Int))] 84])) rfl rfl rfl rfl rfl ty3 rfl astore_to) ?_
          refine AList.nil ?_
          refine AWp.seq ?_
          refine AWp.seq ?_
          refine AWp.to (To.frzPop (s := 8) (xs := _) (T2 := [(0, _), (3, _), (7, _), (9, _)]) hw (by omega) rfl rfl ⟨rfl, trivial, rfl, trivial, rfl, trivial, rfl, trivial, trivial⟩) ?_
          refine AWp.region ?_
          refine AList.c 100 rfl rfl rfl (OpJ.move rfl rfl) ?_
          refine AList.c 101 rfl rfl rfl (OpJ.load (v := .p (.agg [.int .i64 (gt Itm.d (grp l) i).fr, .int .i64 (gt Itm.d (grp l) ((i + 1) - 1)).to, .int .i64 (((gt Itm.d (grp l) i).many : Nat) : Int)])) rfl rfl ty84 rfl) ?_
          refine AList.yield 102 rfl rfl rfl rfl rfl rfl (hb _ _ _ hinv (itmX_at hat)) ?_
          intro b2 h2 hq2
          refine AList.c 103 rfl rfl rfl (OpJ.not_ rfl rfl) ?_
          refine AList.nil ?_
          refine AWp.cond _ rfl (fun hc5 => ?_) (fun hc5 => ?_)
          · skip
            have hb2 : b2 = false := by simpa using hc5
            subst hb2
            have hend : fin h2 := hq2
            refine AWp.ret ?_
            exact ⟨.inr rfl, _, resV.none_ rfl, .inr hend⟩
          · skip
            have hb2 : b2 = true := by simpa using hc5
            subst hb2
            have hN : inv (dn + 1) h2 := hq2
            refine AWp.skip ?_
            refine AWp.region ?_
            refine AList.c 104 rfl rfl rfl (OpJ.move rfl rfl) ?_
            refine AList.c 7 rfl rfl rfl (OpJ.assign rfl rfl) ?_
            refine AList.nil ?_
            refine ⟨(i + 1, dn + 1, h2), ?_, ?_, ?_⟩
            · exact ⟨hk2, hN, hnx, (List.getElem?_eq_some_iff.1 hat).1⟩
            · show (grp l).length - (i + 1) < (grp l).length - i
              omega
            exact To.sub (Sub.cons rfl (by repeat (first | exact Sub.nil | refine Sub.cons rfl ?_)))
        · skip
          have h3e : i + 3 ≤ e := by have h := of_decide_eq_false hc4; omega
          obtain ⟨hat0, hnx⟩ := itm_long hk2 hk3 h3e hdr
          have hm1 : (gt Itm.d (grp l) i).many = 1 := by rcases hem with h | h; exact h; omega
          have hto : (gt Itm.d (grp l) (e - 1)).to = (gt Itm.d (grp l) i).fr + ((e - (i + 1) : Nat) : Int) := by rw [her (e - 1) (by omega) (by omega)]; show _ + ((e - 1 : Nat) : Int) - _ = _; omega
          have hat : (itm (grp l))[dn]? = some ⟨(gt Itm.d (grp l) i).fr, (gt Itm.d (grp l) (e - 1)).to, (gt Itm.d (grp l) i).many⟩ := by rw [hto, hm1]; exact hat0
          refine AWp.skip ?_
          refine AWp.seq ?_
          refine AWp.region ?_
          refine AList.c 93 rfl rfl rfl (OpJ.move rfl rfl) ?_
          refine AList.c 94 rfl rfl rfl (OpJ.move rfl rfl) ?_
          refine AList.c 95 rfl rfl rfl (OpJ.sub_ (m := ((e - 1 : Nat) : Int)) rfl rfl rfl ((i64ok ?_).trans ?_)) ?_
          · omega
          · omega
          refine AList.c 96 rfl rfl rfl (OpJ.indexG (g := gt Itm.d (grp l)) (gt_get _) rfl rfl rfl sl122 el122 rfl (fun _ => rfl) (by decide) (by omega)) ?_
          refine AList.c 97 rfl rfl rfl (OpJ.fieldAddr rfl rfl fd84_1 rfl) ?_
          refine AList.c 98 rfl rfl rfl (OpJ.load (v := .p (.int .i64 (gt Itm.d (grp l) (e - 1)).to)) rfl rfl ty3 rfl) ?_
          refine AList.c 99 rfl rfl rfl (OpJ.fieldAddr rfl rfl fd84_1 rfl) ?_
          refine AList.c0 rfl rfl (OpJ.store (H' := (hcur ++ [.cells [.p (.int .i64 (gt Itm.d (grp l) i).fr), .p (.int .i64 (gt Itm.d (grp l) (e - 1)).to), .p (.int .i64 (((gt Itm.d (grp l) i).many : Nat) : Int))] 84])) rfl rfl rfl rfl rfl ty3 rfl astore_to) ?_
          refine AList.nil ?_
          refine AWp.seq ?_
          refine AWp.seq ?_
          refine AWp.to (To.frzPop (s := 8) (xs := _) (T2 := [(0, _), (3, _), (7, _), (9, _)]) hw (by omega) rfl rfl ⟨rfl, trivial, rfl, trivial, rfl, trivial, rfl, trivial, trivial⟩) ?_
          refine AWp.region ?_
          refine AList.c 100 rfl rfl rfl (OpJ.move rfl rfl) ?_
          refine AList.c 101 rfl rfl rfl (OpJ.load (v := .p (.agg [.int .i64 (gt Itm.d (grp l) i).fr, .int .i64 (gt Itm.d (grp l) (e - 1)).to, .int .i64 (((gt Itm.d (grp l) i).many : Nat) : Int)])) rfl rfl ty84 rfl) ?_
          refine AList.yield 102 rfl rfl rfl rfl rfl rfl (hb _ _ _ hinv (itmX_at hat)) ?_
          intro b2 h2 hq2
          refine AList.c 103 rfl rfl rfl (OpJ.not_ rfl rfl) ?_
          refine AList.nil ?_
          refine AWp.cond _ rfl (fun hc5 => ?_) (fun hc5 => ?_)
          · skip
            have hb2 : b2 = false := by simpa using hc5
            subst hb2
            have hend : fin h2 := hq2
            refine AWp.ret ?_
            exact ⟨.inr rfl, _, resV.none_ rfl, .inr hend⟩
          · skip
            have hb2 : b2 = true := by simpa using hc5
            subst hb2
            have hN : inv (dn + 1) h2 := hq2
            refine AWp.skip ?_
            refine AWp.region ?_
            refine AList.c 104 rfl rfl rfl (OpJ.move rfl rfl) ?_
            refine AList.c 7 rfl rfl rfl (OpJ.assign rfl rfl) ?_
            refine AList.nil ?_
            refine ⟨(e, dn + 1, h2), ?_, ?_, ?_⟩
            · exact ⟨he2, hN, hnx, (List.getElem?_eq_some_iff.1 hat).1⟩
            · show (grp l).length - e < (grp l).length - i
              omega
            exact To.sub (Sub.cons rfl (by repeat (first | exact Sub.nil | refine Sub.cons rfl ?_)))
    · skip
      obtain rfl : i = (grp l).length := by have h := of_decide_eq_false hc2; omega
      refine AWp.exit ?_
      exact ⟨.inl rfl, _, resV.none_ rfl, .inl (itm_end hdr (fun k => inv k hcur) hinv hdn)⟩
theorem items_ok (l : List Int) : Pure Tryd.prog 30 [intsV l] (.func (.func 62) [] [.ip [intsV l] 0]) := by
  refine Pure.start (N := 4) Tryd.func30 rfl rfl (Nat.le_of_ble_eq_true rfl) ?_
  refine AWp.seq ?_
  refine AWp.region ?_
  refine AList.c 1 rfl rfl rfl (OpJ.boxImm rfl rfl rfl) ?_
  refine AList.c 2 rfl rfl rfl (OpJ.assign rfl rfl) ?_
  refine AList.nil ?_
  refine AWp.seq ?_
  refine AWp.region ?_
  refine AList.c 3 rfl rfl rfl (OpJ.makeFunc rfl rfl rfl) ?_
  refine AList.c 2 rfl rfl rfl (OpJ.assign rfl rfl) ?_
  refine AList.nil ?_
  refine AWp.ret ?_
  exact Fin.one rfl (rfl)
end Go.Proofs.YtplofbjppcbchaaDoor
end

section
set_option linter.unusedVariables false
set_option maxRecDepth 100000
set_option maxHeartbeats 4000000
set_option linter.unusedSimpArgs false
namespace Go.Proofs.YtplofbjppcbchaaDoor
open Go.AF
theorem writePacks_ok (l : List Pck) (hl : l.length ≤ bigN) (hs : ∀ p ∈ l, p.colours.length ≤ bigN) : Pure Tryd.prog 8 [pcksV l] (.tuple [.str (sB (wrP l).1), .int .i64 (wrP l).2]) := by
  have hl2 := hl
  unfold bigN at hl2
  refine Pure.start (N := 67) Tryd.func8 rfl rfl (Nat.le_of_ble_eq_true rfl) ?_
  refine AWp.seq ?_
  refine AWp.region ?_
  refine AList.c 2 rfl rfl rfl (OpJ.assign rfl rfl) ?_
  refine AList.c 3 rfl rfl rfl (OpJ.assign rfl rfl) ?_
  refine AList.nil ?_
  refine AWp.seq ?_
  refine AWp.seq ?_
  refine AWp.region ?_
  refine AList.c 9 rfl rfl rfl (OpJ.move rfl rfl) ?_
  refine AList.c 10 rfl rfl rfl (OpJ.lenSlice rfl rfl sl24 rfl) ?_
  refine AList.c 11 rfl rfl rfl (OpJ.move rfl rfl) ?_
  refine AList.c 12 rfl rfl rfl (OpJ.callP (arePacks_ok l hl hs) rfl rfl rfl rfl rf29) ?_
  refine AList.c 13 rfl rfl rfl (OpJ.callP (check_ok _ _ _) rfl rfl rfl rfl rf19) ?_
  refine AList.c 4 rfl rfl rfl (OpJ.assign rfl rfl) ?_
  refine AList.nil ?_
  refine AWp.seq ?_
  refine AWp.region ?_
  refine AList.c 14 rfl rfl rfl (OpJ.move rfl rfl) ?_
  refine AList.c 15 rfl rfl rfl (OpJ.neq rfl rfl rfl) ?_
  refine AList.nil ?_
  refine AWp.cond _ rfl (fun hc0 => ?_) (fun hc0 => ?_)
  · skip
    have hne : ¬ chkN l.length 30 (pcksB l) = 0 := by simpa using hc0
    refine AWp.seq ?_
    refine AWp.region ?_
    refine AList.c 16 rfl rfl rfl (OpJ.move rfl rfl) ?_
    refine AList.c 2 rfl rfl rfl (OpJ.assign rfl rfl) ?_
    refine AList.c 3 rfl rfl rfl (OpJ.assign rfl rfl) ?_
    refine AList.nil ?_
    refine AWp.ret ?_
    refine Fin.manyE (xs := [.str (sB []), .int .i64 (chkN l.length 30 (pcksB l))]) rfl ⟨_, _, rfl, rfl, ⟨_, _, rfl, rfl, rfl⟩⟩ rfl ?_
    rw [wrP_no hne]
  · skip
    have hz : chkN l.length 30 (pcksB l) = 0 := by simpa using hc0
    obtain ⟨hl30, hv⟩ := chk_zero hz
    have hB : (l.flatMap pckT).length ≤ 40770 := pcksT_len hv (by omega)
    have hall := rise_all hv (by decide)
    refine AWp.skip ?_
    refine AWp.seq ?_
    refine AWp.region ?_
    refine AList.c 5 rfl rfl rfl (OpJ.allocOwn rfl zr62 rfl) ?_
    refine AList.nil ?_
    refine AWp.seq ?_
    refine AWp.seq ?_
    refine AWp.to To.pad ?_
    show AWp _ _ _ _ _ _ _ [(wC 62 0 1 ([])), (wF 5 ([]))]
    refine AWp.region ?_
    refine AList.c 17 rfl rfl rfl (OpJ.move rfl rfl) ?_
    refine AList.c 18 rfl rfl rfl (OpJ.lenSlice rfl rfl sl24 rfl) ?_
    refine AList.c 19 rfl rfl rfl (OpJ.move rfl rfl) ?_
    refine AList.nil ?_
    refine AWp.block ?_
    refine AWp.loopHL [2, 3, 5, 17, 18, 32, 65, 66] (fun g => [(19, .p (.int .i64 ((g : Nat) : Int)))]) (fun g => [(wC 62 0 1 ((l.take g).flatMap pckT)), (wF 5 ((l.take g).flatMap pckT))]) (fun g => g ≤ l.length) (fun g => l.length - g) 0 (Nat.zero_le _) (To.sub (Sub.chk (Sub.cons rfl (Sub.nil)))) (fun i hg => ?_)
    refine AWp.seq ?_
    refine AWp.region ?_
    refine AList.c 20 rfl rfl rfl (OpJ.lss rfl rfl rfl) ?_
    refine AList.nil ?_
    refine AWp.seq ?_
    refine AWp.cond _ rfl (fun hc1 => ?_) (fun hc1 => ?_)
    · skip
      have hk0 : i < l.length := by have h := of_decide_eq_true hc1; omega
      obtain ⟨_, hn0, hn1, hpb⟩ := hall _ (gt_mem Pck.d hk0)
      obtain ⟨hcc, hc1a, hc48⟩ := pckB_some hpb
      obtain ⟨hil, hit⟩ := itms_ok hcc (by omega)
      have hst := gt_step Pck.d pckT l i hk0
      have hbi : ((l.take i).flatMap pckT ++ pckT (gt Pck.d l i)).length ≤ 40770 := by rw [hst]; exact txt_le pckT l (i + 1) hB
      have hbi2 : (((l.take i).flatMap pckT ++ (Lib.itoa (gt Pck.d l i).box ++ [58])) ++ itmsT (gt Pck.d l i).colours ++ [10]).length ≤ 40770 := by simpa only [pckT, List.append_assoc] using hbi
      refine AWp.skip ?_
      refine AWp.seq ?_
      refine AWp.block ?_
      refine AWp.seq ?_
      refine AWp.region ?_
      refine AList.c 21 rfl rfl rfl (OpJ.indexG (g := gt Pck.d l) (gt_get _) rfl rfl rfl sl24 el24 rfl (fun _ => rfl) (by decide) hk0) ?_
      refine AList.c 22 rfl rfl rfl (OpJ.load (v := .p (.agg (gt Pck.d l i).cells)) rfl rfl ty36 rfl) ?_
      refine AList.c 7 rfl rfl rfl (OpJ.allocOwn rfl zr36 rfl) ?_
      refine AList.c0 rfl rfl (OpJ.store rfl rfl rfl rfl rfl ty36 rfl rfl) ?_
      refine AList.nil ?_
      refine AWp.seq ?_
      refine AWp.region ?_
      refine AList.c 23 rfl rfl rfl (OpJ.fieldAddr rfl rfl fd36_0 rfl) ?_
      refine AList.c 24 rfl rfl rfl (OpJ.load (v := .p (.int .i64 (gt Pck.d l i).box)) rfl rfl ty3 rfl) ?_
      refine AList.c 25 rfl rfl rfl (OpJ.makeIface rfl rfl con3) ?_
      refine AList.c 26 rfl rfl rfl (OpJ.makeIface rfl rfl con9) ?_
      refine AList.c 27 rfl rfl rfl (OpJ.buildImm rfl slz109 (by decide) rfl rfl rfl) ?_
      refine AList.callW 28 0 1 (put_ok _ [.nu (gt Pck.d l i).box, .tx [58]] (by intro q hq; simp only [List.mem_cons, List.not_mem_nil, or_false] at hq; rcases hq with rfl | rfl; exact ⟨by omega, by omega⟩; exact Nat.succ_pos _) (by show 2 ≤ 1000; decide) (by rw [prts_nt]; simp only [List.length_append, List.length_singleton] at hbi2 ⊢; omega)) (by decide) rfl rfl rfl rfl rfl rfl rfl rfl rfl rf21 ?_
      refine AList.nil ?_
      refine AWp.seq ?_
      refine AWp.seq ?_
      refine AWp.region ?_
      refine AList.c 29 rfl rfl rfl (OpJ.fieldAddr rfl rfl fd36_1 rfl) ?_
      refine AList.c 30 rfl rfl rfl (OpJ.load (v := .p (intsV (gt Pck.d l i).colours)) rfl rfl ty34 rfl) ?_
      refine AList.c 31 rfl rfl rfl (OpJ.callP (items_ok _) rfl rfl rfl rfl rf30) ?_
      refine AList.nil ?_
      refine AWp.block ?_
      refine AWp.norm [0, 3] [(2, _), (3, _), (5, _), (17, _), (18, _), (19, _), (31, _)] [(wC 62 0 1 (((l.take i).flatMap pckT ++ (Lib.itoa (gt Pck.d l i).box ++ [58])) ++ ((itm (grp (gt Pck.d l i).colours)).take 0).flatMap itmT)), (wF 5 (((l.take i).flatMap pckT ++ (Lib.itoa (gt Pck.d l i).box ++ [58])) ++ ((itm (grp (gt Pck.d l i).colours)).take 0).flatMap itmT))] rfl (by repeat (first | exact Sub.nil | refine Sub.cons rfl ?_)) (by show [renB (pl [0, 3]) (wC 62 0 3 ((l.take i).flatMap pckT ++ prtsT [.nu (gt Pck.d l i).box, .tx [58]])), renB (pl [0, 3]) (wF 5 ((l.take i).flatMap pckT ++ prtsT [.nu (gt Pck.d l i).box, .tx [58]]))] = [(wC 62 0 1 (((l.take i).flatMap pckT ++ (Lib.itoa (gt Pck.d l i).box ++ [58])) ++ ((itm (grp (gt Pck.d l i).colours)).take 0).flatMap itmT)), (wF 5 (((l.take i).flatMap pckT ++ (Lib.itoa (gt Pck.d l i).box ++ [58])) ++ ((itm (grp (gt Pck.d l i).colours)).take 0).flatMap itmT))]; rw [wC_ren (σ := pl [0, 3]) (i := 0) (j := 3) (i' := 0) (j' := 1) rfl rfl, wF_ren, prts_nt, List.take_zero, show List.flatMap itmT [] = [] from rfl, List.append_nil]) ?_
      refine AWp.rangeFunc 0 rfl (fun _ => rfl) rf62 (items_seq _ (by omega) hcc) (Nat.le_refl _) (Nat.zero_le _) (fun _ h => by cases h) (fun x hx => by obtain ⟨k, hk⟩ := List.getElem?_of_mem hx; obtain ⟨y, _, rfl⟩ := itmX_get hk; rfl) rfl (fun k h => h = [(wC 62 0 1 (((l.take i).flatMap pckT ++ (Lib.itoa (gt Pck.d l i).box ++ [58])) ++ ((itm (grp (gt Pck.d l i).colours)).take k).flatMap itmT)), (wF 5 (((l.take i).flatMap pckT ++ (Lib.itoa (gt Pck.d l i).box ++ [58])) ++ ((itm (grp (gt Pck.d l i).colours)).take k).flatMap itmT))]) (fun c h => False) (fun _ _ h => by rw [h]; rfl) (fun _ _ h => h.elim) rfl ?_ ?_ ?_
      · skip
        intro lx tmps k h x hJ hx
        subst hJ
        obtain ⟨y, hyk, rfl⟩ := itmX_get hx
        obtain ⟨hy1, hy2, hy3, hy4, hy5⟩ := hit y (List.mem_of_getElem? hyk)
        have hbk : (((l.take i).flatMap pckT ++ (Lib.itoa (gt Pck.d l i).box ++ [58])) ++ ((itm (grp (gt Pck.d l i).colours)).take k).flatMap itmT ++ itmT y).length ≤ 40770 := by have h1 := take_len itmT (itm (grp (gt Pck.d l i).colours)) (k + 1); rw [← gt_stepI hyk] at h1; simp only [itmsT, List.length_append, List.length_singleton] at hbi2 h1 ⊢; omega
        refine AWp.region ?_
        refine AList.c 8 rfl rfl rfl (OpJ.allocOwn rfl zr84 rfl) ?_
        refine AList.c0 rfl rfl (OpJ.store rfl rfl rfl rfl rfl ty84 rfl rfl) ?_
        refine AList.nil ?_
        refine ⟨rfl, rfl, ?_⟩
        refine AWp.block ?_
        refine AWp.seq ?_
        refine AWp.region ?_
        refine AList.c 33 rfl rfl rfl (OpJ.makeIface rfl rfl con9) ?_
        refine AList.c 34 rfl rfl rfl (OpJ.fieldAddr rfl rfl fd84_0 rfl) ?_
        refine AList.c 35 rfl rfl rfl (OpJ.load (v := .p (.int .i64 y.fr)) rfl rfl ty3 rfl) ?_
        refine AList.c 36 rfl rfl rfl (OpJ.makeIface rfl rfl con3) ?_
        refine AList.c 37 rfl rfl rfl (OpJ.buildImm rfl slz109 (by decide) rfl rfl rfl) ?_
        refine AList.callW 38 0 1 (put_ok _ [.tx [32], .nu y.fr] (by intro q hq; simp only [List.mem_cons, List.not_mem_nil, or_false] at hq; rcases hq with rfl | rfl; exact Nat.succ_pos _; exact ⟨by omega, by omega⟩) (by show 2 ≤ 1000; decide) (by rw [prts_tn]; simp only [itmT, List.length_append, List.length_singleton] at hbk ⊢; omega)) (by decide) rfl rfl rfl rfl rfl rfl rfl rfl rfl rf21 ?_
        refine AList.nil ?_
        refine AWp.block ?_
        refine AWp.seq ?_
        refine AWp.region ?_
        refine AList.c 40 rfl rfl rfl (OpJ.fieldAddr rfl rfl fd84_2 rfl) ?_
        refine AList.c 41 rfl rfl rfl (OpJ.load (v := .p (.int .i64 ((y.many : Nat) : Int))) rfl rfl ty3 rfl) ?_
        refine AList.c 42 rfl rfl rfl (OpJ.gtr rfl rfl rfl) ?_
        refine AList.c 39 rfl rfl rfl (OpJ.assign rfl rfl) ?_
        refine AList.nil ?_
        refine AWp.cond _ rfl (fun hc2 => ?_) (fun hc2 => ?_)
        · skip
          refine AWp.region ?_
          refine AList.c 43 rfl rfl rfl (OpJ.makeIface rfl rfl con9) ?_
          refine AList.c 44 rfl rfl rfl (OpJ.fieldAddr rfl rfl fd84_2 rfl) ?_
          refine AList.c 45 rfl rfl rfl (OpJ.load (v := .p (.int .i64 ((y.many : Nat) : Int))) rfl rfl ty3 rfl) ?_
          refine AList.c 46 rfl rfl rfl (OpJ.makeIface rfl rfl con3) ?_
          refine AList.c 47 rfl rfl rfl (OpJ.buildImm rfl slz109 (by decide) rfl rfl rfl) ?_
          refine AList.callW 48 0 4 (put_ok _ [.tx [120], .nu ((y.many : Nat) : Int)] (by intro q hq; simp only [List.mem_cons, List.not_mem_nil, or_false] at hq; rcases hq with rfl | rfl; exact Nat.succ_pos _; exact ⟨by omega, by omega⟩) (by show 2 ≤ 1000; decide) (by rw [prts_tn, prts_tn]; rw [it_m hc2] at hbk; simp only [List.length_append, List.length_singleton] at hbk ⊢; omega)) (by decide) rfl rfl rfl rfl rfl rfl rfl rfl rfl rf21 ?_
          refine AList.nil ?_
          have eT : ((((l.take i).flatMap pckT ++ (Lib.itoa (gt Pck.d l i).box ++ [58])) ++ ((itm (grp (gt Pck.d l i).colours)).take k).flatMap itmT ++ ([32] ++ Lib.itoa y.fr)) ++ ([120] ++ Lib.itoa ((y.many : Nat) : Int))) = ((l.take i).flatMap pckT ++ (Lib.itoa (gt Pck.d l i).box ++ [58])) ++ ((itm (grp (gt Pck.d l i).colours)).take (k + 1)).flatMap itmT := by rw [← gt_stepI hyk, it_m hc2]; simp only [List.append_assoc, List.append_nil]
          refine ⟨_, rfl, To.done [0, 5, 2] rfl Sub.nil ?_⟩
          show [renB (pl [0, 5, 2]) (wC 62 0 5 (((((l.take i).flatMap pckT ++ (Lib.itoa (gt Pck.d l i).box ++ [58])) ++ ((itm (grp (gt Pck.d l i).colours)).take k).flatMap itmT ++ prtsT [.tx [32], .nu y.fr]) ++ prtsT [.tx [120], .nu ((y.many : Nat) : Int)]))), renB (pl [0, 5, 2]) (wF 5 (((((l.take i).flatMap pckT ++ (Lib.itoa (gt Pck.d l i).box ++ [58])) ++ ((itm (grp (gt Pck.d l i).colours)).take k).flatMap itmT ++ prtsT [.tx [32], .nu y.fr]) ++ prtsT [.tx [120], .nu ((y.many : Nat) : Int)]))), _] = [(wC 62 0 1 (((l.take i).flatMap pckT ++ (Lib.itoa (gt Pck.d l i).box ++ [58])) ++ ((itm (grp (gt Pck.d l i).colours)).take (k + 1)).flatMap itmT)), (wF 5 (((l.take i).flatMap pckT ++ (Lib.itoa (gt Pck.d l i).box ++ [58])) ++ ((itm (grp (gt Pck.d l i).colours)).take (k + 1)).flatMap itmT)), _]
          rw [wC_ren (σ := pl [0, 5, 2]) (i := 0) (j := 5) (i' := 0) (j' := 1) rfl rfl, wF_ren]
          simp only [prts_tn]
          rw [eT]
          rfl
        · skip
          refine AWp.seq ?_
          refine AWp.region ?_
          refine AList.c 50 rfl rfl rfl (OpJ.fieldAddr rfl rfl fd84_1 rfl) ?_
          refine AList.c 51 rfl rfl rfl (OpJ.load (v := .p (.int .i64 y.to)) rfl rfl ty3 rfl) ?_
          refine AList.c 52 rfl rfl rfl (OpJ.fieldAddr rfl rfl fd84_0 rfl) ?_
          refine AList.c 53 rfl rfl rfl (OpJ.load (v := .p (.int .i64 y.fr)) rfl rfl ty3 rfl) ?_
          refine AList.c 54 rfl rfl rfl (OpJ.gtr rfl rfl rfl) ?_
          refine AList.c 49 rfl rfl rfl (OpJ.assign rfl rfl) ?_
          refine AList.nil ?_
          refine AWp.cond _ rfl (fun hc3 => ?_) (fun hc3 => ?_)
          · skip
            refine AWp.region ?_
            refine AList.c 55 rfl rfl rfl (OpJ.makeIface rfl rfl con9) ?_
            refine AList.c 56 rfl rfl rfl (OpJ.fieldAddr rfl rfl fd84_1 rfl) ?_
            refine AList.c 57 rfl rfl rfl (OpJ.load (v := .p (.int .i64 y.to)) rfl rfl ty3 rfl) ?_
            refine AList.c 58 rfl rfl rfl (OpJ.makeIface rfl rfl con3) ?_
            refine AList.c 59 rfl rfl rfl (OpJ.buildImm rfl slz109 (by decide) rfl rfl rfl) ?_
            refine AList.callW 60 0 4 (put_ok _ [.tx [45], .nu y.to] (by intro q hq; simp only [List.mem_cons, List.not_mem_nil, or_false] at hq; rcases hq with rfl | rfl; exact Nat.succ_pos _; exact ⟨by omega, by omega⟩) (by show 2 ≤ 1000; decide) (by rw [prts_tn, prts_tn]; rw [it_t hc2 hc3] at hbk; simp only [List.length_append, List.length_singleton] at hbk ⊢; omega)) (by decide) rfl rfl rfl rfl rfl rfl rfl rfl rfl rf21 ?_
            refine AList.nil ?_
            have eT : ((((l.take i).flatMap pckT ++ (Lib.itoa (gt Pck.d l i).box ++ [58])) ++ ((itm (grp (gt Pck.d l i).colours)).take k).flatMap itmT ++ ([32] ++ Lib.itoa y.fr)) ++ ([45] ++ Lib.itoa y.to)) = ((l.take i).flatMap pckT ++ (Lib.itoa (gt Pck.d l i).box ++ [58])) ++ ((itm (grp (gt Pck.d l i).colours)).take (k + 1)).flatMap itmT := by rw [← gt_stepI hyk, it_t hc2 hc3]; simp only [List.append_assoc, List.append_nil]
            refine ⟨_, rfl, To.done [0, 5, 2] rfl Sub.nil ?_⟩
            show [renB (pl [0, 5, 2]) (wC 62 0 5 (((((l.take i).flatMap pckT ++ (Lib.itoa (gt Pck.d l i).box ++ [58])) ++ ((itm (grp (gt Pck.d l i).colours)).take k).flatMap itmT ++ prtsT [.tx [32], .nu y.fr]) ++ prtsT [.tx [45], .nu y.to]))), renB (pl [0, 5, 2]) (wF 5 (((((l.take i).flatMap pckT ++ (Lib.itoa (gt Pck.d l i).box ++ [58])) ++ ((itm (grp (gt Pck.d l i).colours)).take k).flatMap itmT ++ prtsT [.tx [32], .nu y.fr]) ++ prtsT [.tx [45], .nu y.to]))), _] = [(wC 62 0 1 (((l.take i).flatMap pckT ++ (Lib.itoa (gt Pck.d l i).box ++ [58])) ++ ((itm (grp (gt Pck.d l i).colours)).take (k + 1)).flatMap itmT)), (wF 5 (((l.take i).flatMap pckT ++ (Lib.itoa (gt Pck.d l i).box ++ [58])) ++ ((itm (grp (gt Pck.d l i).colours)).take (k + 1)).flatMap itmT)), _]
            rw [wC_ren (σ := pl [0, 5, 2]) (i := 0) (j := 5) (i' := 0) (j' := 1) rfl rfl, wF_ren]
            simp only [prts_tn]
            rw [eT]
            rfl
          · skip
            refine AWp.skip ?_
            have eT : (((l.take i).flatMap pckT ++ (Lib.itoa (gt Pck.d l i).box ++ [58])) ++ ((itm (grp (gt Pck.d l i).colours)).take k).flatMap itmT ++ ([32] ++ Lib.itoa y.fr)) = ((l.take i).flatMap pckT ++ (Lib.itoa (gt Pck.d l i).box ++ [58])) ++ ((itm (grp (gt Pck.d l i).colours)).take (k + 1)).flatMap itmT := by rw [← gt_stepI hyk, it_n hc2 hc3]; simp only [List.append_assoc, List.append_nil]
            refine ⟨_, rfl, To.done [0, 4, 2] rfl Sub.nil ?_⟩
            show [renB (pl [0, 4, 2]) (wC 62 0 4 ((((l.take i).flatMap pckT ++ (Lib.itoa (gt Pck.d l i).box ++ [58])) ++ ((itm (grp (gt Pck.d l i).colours)).take k).flatMap itmT ++ prtsT [.tx [32], .nu y.fr]))), renB (pl [0, 4, 2]) (wF 5 ((((l.take i).flatMap pckT ++ (Lib.itoa (gt Pck.d l i).box ++ [58])) ++ ((itm (grp (gt Pck.d l i).colours)).take k).flatMap itmT ++ prtsT [.tx [32], .nu y.fr]))), _] = [(wC 62 0 1 (((l.take i).flatMap pckT ++ (Lib.itoa (gt Pck.d l i).box ++ [58])) ++ ((itm (grp (gt Pck.d l i).colours)).take (k + 1)).flatMap itmT)), (wF 5 (((l.take i).flatMap pckT ++ (Lib.itoa (gt Pck.d l i).box ++ [58])) ++ ((itm (grp (gt Pck.d l i).colours)).take (k + 1)).flatMap itmT)), _]
            rw [wC_ren (σ := pl [0, 4, 2]) (i := 0) (j := 4) (i' := 0) (j' := 1) rfl rfl, wF_ren]
            simp only [prts_tn]
            rw [eT]
            rfl
      · skip
        intro h hJ
        subst hJ
        rw [itmX_len, List.take_length]
        show AWp _ _ _ _ _ _ _ [(wC 62 0 1 (((l.take i).flatMap pckT ++ (Lib.itoa (gt Pck.d l i).box ++ [58])) ++ itmsT (gt Pck.d l i).colours)), (wF 5 (((l.take i).flatMap pckT ++ (Lib.itoa (gt Pck.d l i).box ++ [58])) ++ itmsT (gt Pck.d l i).colours)), .dead]
        refine AWp.region ?_
        refine AList.c 61 rfl rfl rfl (OpJ.makeIface rfl rfl con9) ?_
        refine AList.c 62 rfl rfl rfl (OpJ.buildImm rfl slz109 (by decide) rfl rfl rfl) ?_
        refine AList.callW 63 0 1 (put_ok _ [.tx [10]] (by intro q hq; simp only [List.mem_cons, List.not_mem_nil, or_false] at hq; rcases hq with rfl; exact Nat.succ_pos _) (by show 1 ≤ 1000; decide) (by rw [prts_t]; exact Nat.le_trans hbi2 (by decide))) (by decide) rfl rfl rfl rfl rfl rfl rfl rfl rfl rf21 ?_
        refine AList.nil ?_
        refine AWp.region ?_
        refine AList.c 64 rfl rfl rfl (OpJ.add rfl rfl rfl (i64ok ?_)) ?_
        · omega
        refine AList.c 19 rfl rfl rfl (OpJ.move rfl rfl) ?_
        refine AList.nil ?_
        refine ⟨i + 1, ?_, ?_, ?_⟩
        · exact hk0
        · omega
        have eP : ((l.take i).flatMap pckT ++ (Lib.itoa (gt Pck.d l i).box ++ [58])) ++ itmsT (gt Pck.d l i).colours ++ [10] = (l.take (i + 1)).flatMap pckT := by rw [← hst]; simp only [pckT, List.append_assoc]
        exact To.done [0, 3] rfl (by repeat (first | exact Sub.nil | refine Sub.cons rfl ?_)) (by show [renB (pl [0, 3]) (wC 62 0 3 (((l.take i).flatMap pckT ++ (Lib.itoa (gt Pck.d l i).box ++ [58])) ++ itmsT (gt Pck.d l i).colours ++ prtsT [.tx [10]])), renB (pl [0, 3]) (wF 5 (((l.take i).flatMap pckT ++ (Lib.itoa (gt Pck.d l i).box ++ [58])) ++ itmsT (gt Pck.d l i).colours ++ prtsT [.tx [10]]))] = [(wC 62 0 1 ((l.take (i + 1)).flatMap pckT)), (wF 5 ((l.take (i + 1)).flatMap pckT))]; rw [wC_ren (σ := pl [0, 3]) (i := 0) (j := 3) (i' := 0) (j' := 1) rfl rfl, wF_ren, prts_t, eP])
      · skip
        intro c h hx
        exact hx.elim
    · skip
      have hi : i = l.length := by have h := of_decide_eq_false hc1; omega
      subst hi
      refine AWp.exit ?_
      refine AWp.seq ?_
      refine AWp.region ?_
      refine AList.c 65 rfl rfl rfl (OpJ.fieldAddr rfl rfl fd62_0 rfl) ?_
      refine AList.callX 66 (bstr_ok _ (Nat.le_trans (txt_le pckT l l.length hB) (by decide))) rfl rfl rfl rfl rfl rfl rfl rf22 (fun v H2 hQ2 => ?_)
      obtain ⟨rfl, rfl⟩ := hQ2
      refine AList.c 2 rfl rfl rfl (OpJ.assign rfl rfl) ?_
      refine AList.c 3 rfl rfl rfl (OpJ.assign rfl rfl) ?_
      refine AList.nil ?_
      refine AWp.ret ?_
      refine Fin.manyE (xs := [.str (sB ((l.take l.length).flatMap pckT)), .int .i64 0]) rfl ⟨_, _, rfl, rfl, ⟨_, _, rfl, rfl, rfl⟩⟩ rfl ?_
      rw [wrP_yes hz, List.take_length]
      rfl
end Go.Proofs.YtplofbjppcbchaaDoor
end
