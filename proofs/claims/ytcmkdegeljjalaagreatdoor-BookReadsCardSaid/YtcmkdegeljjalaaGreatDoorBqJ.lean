/-
  The reference: reports are read.
  The reference: cards are read.
-/
import Derived.Test.YtcmkdegeljjalaaGreatDoorBqH
import Derived.Test.YtcmkdegeljjalaaGreatDoorBqI
import Derived.Test.YtcmkdegeljjalaaGreatDoorBqP
section
set_option linter.unusedVariables false
set_option maxRecDepth 100000
set_option maxHeartbeats 4000000
set_option linter.unusedSimpArgs false
namespace Go.Proofs.YtcmkdegeljjalaaGreatDoor
open Go.AF
theorem spanOf_ok (s : Bs) : Pure Tryz.prog 52 [.str (sB s)] (.tuple [.agg (spfP s).1.cells, .int .i64 (((spfP s).2 : Nat) : Int)]) := by
  have hfl := fig_le s
  have hf9 := fig_9 s
  have hm9 := fig_9 (s.drop ((figP s).2 + 2))
  refine Pure.start (N := 51) Tryz.func52 rfl rfl (Nat.le_of_ble_eq_true rfl) ?_
  refine AWp.seq ?_
  refine AWp.region ?_
  refine AList.c 2 rfl rfl rfl (OpJ.allocOwn rfl zr44 rfl) ?_
  refine AList.c 3 rfl rfl rfl (OpJ.assign rfl rfl) ?_
  refine AList.nil ?_
  refine AWp.seq ?_
  refine AWp.region ?_
  refine AList.c 9 rfl rfl rfl (OpJ.move rfl rfl) ?_
  refine AList.c 10 rfl rfl rfl (OpJ.callP (figure_ok _) rfl rfl rfl rfl rf51) ?_
  refine AList.c 8 rfl rfl rfl (OpJ.move rfl rfl) ?_
  refine AList.c 11 rfl rfl rfl (OpJ.extract rfl rfl rfl) ?_
  refine AList.c 12 rfl rfl rfl (OpJ.extract rfl rfl rfl) ?_
  refine AList.c 4 rfl rfl rfl (OpJ.assign rfl rfl) ?_
  refine AList.c 5 rfl rfl rfl (OpJ.assign rfl rfl) ?_
  refine AList.nil ?_
  refine AWp.seq ?_
  refine AWp.seq ?_
  refine AWp.region ?_
  refine AList.c 13 rfl rfl rfl (OpJ.move rfl rfl) ?_
  refine AList.c 14 rfl rfl rfl (OpJ.eql rfl rfl rfl) ?_
  refine AList.nil ?_
  refine AWp.cond _ rfl (fun hc0 => ?_) (fun hc0 => ?_)
  · skip
    have h0 : (figP s).2 = 0 := by have h := of_decide_eq_true hc0; omega
    refine AWp.seq ?_
    refine AWp.region ?_
    refine AList.c 15 rfl rfl rfl (OpJ.buildR (v := .p (.agg [.int .i64 0, .int .i64 0])) rfl bd44 rfl rfl rfl) ?_
    refine AList.c0 rfl rfl (OpJ.store rfl rfl rfl rfl rfl ty44 rfl rfl) ?_
    refine AList.c 3 rfl rfl rfl (OpJ.assign rfl rfl) ?_
    refine AList.nil ?_
    refine AWp.ret ?_
    refine Fin.manyE (xs := [.agg [.int .i64 0, .int .i64 0], .int .i64 0]) rfl (⟨_, _, rfl, ⟨_, _, _, rfl, ty44, rfl⟩, ⟨_, _, rfl, rfl, rfl⟩⟩) rfl ?_
    rw [spf_0 h0]
    rfl
  · skip
    have h0 : (figP s).2 ≠ 0 := by have h := of_decide_eq_false hc0; omega
    refine AWp.skip ?_
    refine AWp.seq ?_
    refine AWp.seq ?_
    refine AWp.region ?_
    refine AList.c 16 rfl rfl rfl (OpJ.move rfl rfl) ?_
    refine AList.c 17 rfl rfl rfl (OpJ.lenStr rfl rfl un9) ?_
    refine AList.c 18 rfl rfl rfl (OpJ.move rfl rfl) ?_
    refine AList.c 19 rfl rfl rfl (OpJ.add (m := (((figP s).2 + 2 : Nat) : Int)) rfl rfl rfl ((i64ok ?_).trans ?_)) ?_
    · omega
    · omega
    refine AList.c 20 rfl rfl rfl (OpJ.lss rfl rfl rfl) ?_
    refine AList.c 21 rfl rfl rfl (OpJ.move rfl rfl) ?_
    refine AList.g 22 21 rfl rfl rfl rfl rfl rfl rfl [(0, _)] (fun h => And.intro (.inl rfl) (trivial)) (fun h => (OpJ.move rfl rfl)) ?_
    refine AList.g 23 21 rfl rfl rfl rfl rfl rfl rfl [(5, _)] (fun h => And.intro (.inl rfl) (trivial)) (fun h => (OpJ.move rfl rfl)) ?_
    refine AList.g 24 21 rfl rfl rfl rfl rfl rfl rfl [(5, _)] (fun h => And.intro (.inl rfl) (trivial)) (fun h => (OpJ.move rfl rfl)) ?_
    refine AList.g 25 21 rfl rfl rfl rfl rfl rfl rfl [(24, _)] (fun h => And.intro (.inr ⟨_, rfl, h⟩) (trivial)) (fun h => (OpJ.add (m := (((figP s).2 + 2 : Nat) : Int)) rfl rfl rfl ((i64ok (by omega)).trans (by omega)))) ?_
    refine AList.g 26 21 rfl rfl rfl rfl rfl rfl rfl [(22, _), (23, _), (25, _)] (fun h => And.intro (.inr ⟨_, rfl, h⟩) (And.intro (.inr ⟨_, rfl, h⟩) (And.intro (.inr ⟨_, rfl, h⟩) (trivial)))) (fun h => (OpJ.strCut s (figP s).2 ((figP s).2 + 2) rfl rfl st9 ⟨_, rfl⟩ ⟨_, rfl⟩ (by omega) (by have h2 := of_decide_eq_false (eq_of_beq h); rw [sB_size] at h2; omega))) ?_
    refine AList.g 27 21 rfl rfl rfl rfl rfl rfl rfl [(26, _)] (fun h => And.intro (.inr ⟨_, rfl, h⟩) (trivial)) (fun h => (OpJ.strNe ((s.drop (figP s).2).take ((figP s).2 + 2 - (figP s).2)) [46, 46] rfl rfl rfl)) ?_
    refine AList.c 28 rfl rfl rfl (OpJ.or_ rfl rfl rfl ?_) ?_
    · first | (intro h; rw [h]; rfl) | (intro h; simp_all)
    refine AList.nil ?_
    refine AWp.cond _ rfl (fun hc1 => ?_) (fun hc1 => ?_)
    · skip
      have hp : preB [46, 46] (s.drop (figP s).2) = false := spf_c hfl hc1
      refine AWp.seq ?_
      refine AWp.region ?_
      refine AList.c 29 rfl rfl rfl (OpJ.move rfl rfl) ?_
      refine AList.c 30 rfl rfl rfl (OpJ.move rfl rfl) ?_
      refine AList.c 31 rfl rfl rfl (OpJ.buildR (v := .p (.agg [.int .i64 ((figP s).1 : Nat), .int .i64 ((figP s).1 : Nat)])) rfl bd44 rfl rfl rfl) ?_
      refine AList.c 32 rfl rfl rfl (OpJ.move rfl rfl) ?_
      refine AList.c0 rfl rfl (OpJ.store rfl rfl rfl rfl rfl ty44 rfl rfl) ?_
      refine AList.c 3 rfl rfl rfl (OpJ.assign rfl rfl) ?_
      refine AList.nil ?_
      refine AWp.ret ?_
      refine Fin.manyE (xs := [.agg [.int .i64 ((figP s).1 : Nat), .int .i64 ((figP s).1 : Nat)], .int .i64 (((figP s).2 : Nat) : Int)]) rfl (⟨_, _, rfl, ⟨_, _, _, rfl, ty44, rfl⟩, ⟨_, _, rfl, rfl, rfl⟩⟩) rfl ?_
      rw [spf_1 h0 hp]
      rfl
    · skip
      have hp : preB [46, 46] (s.drop (figP s).2) = true := spf_c hfl hc1
      have hpl := (preB_iff.1 hp).2
      rw [List.length_drop] at hpl
      simp only [List.length_cons, List.length_nil] at hpl
      refine AWp.skip ?_
      refine AWp.seq ?_
      refine AWp.region ?_
      refine AList.c 34 rfl rfl rfl (OpJ.move rfl rfl) ?_
      refine AList.c 35 rfl rfl rfl (OpJ.move rfl rfl) ?_
      refine AList.c 36 rfl rfl rfl (OpJ.add (m := (((figP s).2 + 2 : Nat) : Int)) rfl rfl rfl ((i64ok ?_).trans ?_)) ?_
      · omega
      · omega
      refine AList.c 37 rfl rfl rfl (OpJ.strCut s ((figP s).2 + 2) s.length rfl rfl st9 ⟨_, rfl⟩ rfl (by omega) (Nat.le_refl _)) ?_
      rw [cut_all]
      refine AList.c 38 rfl rfl rfl (OpJ.callP (figure_ok _) rfl rfl rfl rfl rf51) ?_
      refine AList.c 33 rfl rfl rfl (OpJ.move rfl rfl) ?_
      refine AList.c 39 rfl rfl rfl (OpJ.extract rfl rfl rfl) ?_
      refine AList.c 40 rfl rfl rfl (OpJ.extract rfl rfl rfl) ?_
      refine AList.c 6 rfl rfl rfl (OpJ.assign rfl rfl) ?_
      refine AList.c 7 rfl rfl rfl (OpJ.assign rfl rfl) ?_
      refine AList.nil ?_
      refine AWp.seq ?_
      refine AWp.seq ?_
      refine AWp.region ?_
      refine AList.c 41 rfl rfl rfl (OpJ.move rfl rfl) ?_
      refine AList.c 42 rfl rfl rfl (OpJ.eql rfl rfl rfl) ?_
      refine AList.nil ?_
      refine AWp.cond _ rfl (fun hc2 => ?_) (fun hc2 => ?_)
      · skip
        have h2 : (figP (s.drop ((figP s).2 + 2))).2 = 0 := by have h := of_decide_eq_true hc2; omega
        refine AWp.seq ?_
        refine AWp.region ?_
        refine AList.c 43 rfl rfl rfl (OpJ.buildR (v := .p (.agg [.int .i64 0, .int .i64 0])) rfl bd44 rfl rfl rfl) ?_
        refine AList.c0 rfl rfl (OpJ.store rfl rfl rfl rfl rfl ty44 rfl rfl) ?_
        refine AList.c 3 rfl rfl rfl (OpJ.assign rfl rfl) ?_
        refine AList.nil ?_
        refine AWp.ret ?_
        refine Fin.manyE (xs := [.agg [.int .i64 0, .int .i64 0], .int .i64 0]) rfl (⟨_, _, rfl, ⟨_, _, _, rfl, ty44, rfl⟩, ⟨_, _, rfl, rfl, rfl⟩⟩) rfl ?_
        rw [spf_2 h0 hp h2]
        rfl
      · skip
        have h2 : (figP (s.drop ((figP s).2 + 2))).2 ≠ 0 := by have h := of_decide_eq_false hc2; omega
        refine AWp.skip ?_
        refine AWp.seq ?_
        refine AWp.region ?_
        refine AList.c 44 rfl rfl rfl (OpJ.move rfl rfl) ?_
        refine AList.c 45 rfl rfl rfl (OpJ.move rfl rfl) ?_
        refine AList.c 46 rfl rfl rfl (OpJ.buildR (v := .p (.agg [.int .i64 ((figP s).1 : Nat), .int .i64 ((figP (s.drop ((figP s).2 + 2))).1 : Nat)])) rfl bd44 rfl rfl rfl) ?_
        refine AList.c 47 rfl rfl rfl (OpJ.move rfl rfl) ?_
        refine AList.c 48 rfl rfl rfl (OpJ.add (m := (((figP s).2 + 2 : Nat) : Int)) rfl rfl rfl ((i64ok ?_).trans ?_)) ?_
        · omega
        · omega
        refine AList.c 49 rfl rfl rfl (OpJ.move rfl rfl) ?_
        refine AList.c 50 rfl rfl rfl (OpJ.add (m := (((figP s).2 + 2 + (figP (s.drop ((figP s).2 + 2))).2 : Nat) : Int)) rfl rfl rfl ((i64ok ?_).trans ?_)) ?_
        · omega
        · omega
        refine AList.c0 rfl rfl (OpJ.store rfl rfl rfl rfl rfl ty44 rfl rfl) ?_
        refine AList.c 3 rfl rfl rfl (OpJ.assign rfl rfl) ?_
        refine AList.nil ?_
        refine AWp.ret ?_
        refine Fin.manyE (xs := [.agg [.int .i64 ((figP s).1 : Nat), .int .i64 ((figP (s.drop ((figP s).2 + 2))).1 : Nat)], .int .i64 (((figP s).2 + 2 + (figP (s.drop ((figP s).2 + 2))).2 : Nat) : Int)]) rfl (⟨_, _, rfl, ⟨_, _, _, rfl, ty44, rfl⟩, ⟨_, _, rfl, rfl, rfl⟩⟩) rfl ?_
        rw [spf_3 h0 hp h2]
        rfl
theorem rreadR_ok (s : Bs) : Pure Tryz.prog 14 [.str (sB s)] (.tuple [(opR s).1, .int .i64 (opR s).2]) := by
  refine Pure.start (N := 145) Tryz.func14 rfl rfl (Nat.le_of_ble_eq_true rfl) ?_
  refine AWp.seq ?_
  refine AWp.region ?_
  refine AList.c 2 rfl rfl rfl (OpJ.assign rfl rfl) ?_
  refine AList.c 3 rfl rfl rfl (OpJ.assign rfl rfl) ?_
  refine AList.nil ?_
  refine AWp.seq ?_
  refine AWp.seq ?_
  refine AWp.region ?_
  refine AList.c 19 rfl rfl rfl (OpJ.move rfl rfl) ?_
  refine AList.c 20 rfl rfl rfl (OpJ.lenStr rfl rfl un9) ?_
  refine AList.c 21 rfl rfl rfl (OpJ.gtr rfl rfl rfl) ?_
  refine AList.nil ?_
  refine AWp.cond _ rfl (fun hc0 => ?_) (fun hc0 => ?_)
  · skip
    have hbig : 65536 < s.length := by have h := of_decide_eq_true hc0; rw [sB_size] at h; omega
    refine AWp.seq ?_
    refine AWp.region ?_
    refine AList.c 2 rfl rfl rfl (OpJ.assign rfl rfl) ?_
    refine AList.c 3 rfl rfl rfl (OpJ.assign rfl rfl) ?_
    refine AList.nil ?_
    refine AWp.ret ?_
    refine Fin.manyE (xs := [.nilSlice, .int .i64 3]) rfl ⟨_, _, rfl, rfl, ⟨_, _, rfl, rfl, rfl⟩⟩ rfl ?_
    rw [opR_big hbig]
  · skip
    have hs : s.length ≤ 65536 := by have h := of_decide_eq_false hc0; rw [sB_size] at h; omega
    have hll := lns_len s []
    refine AWp.skip ?_
    refine AWp.seq ?_
    refine AWp.region ?_
    refine AList.c 23 rfl rfl rfl (OpJ.move rfl rfl) ?_
    refine AList.c 24 rfl rfl rfl (OpJ.callP (lines_ok s hs) rfl rfl rfl rfl rf49) ?_
    refine AList.c 22 rfl rfl rfl (OpJ.move rfl rfl) ?_
    refine AList.c 25 rfl rfl rfl (OpJ.extract rfl rfl rfl) ?_
    refine AList.c 26 rfl rfl rfl (OpJ.extract rfl rfl rfl) ?_
    refine AList.c 4 rfl rfl rfl (OpJ.assign rfl rfl) ?_
    refine AList.c 5 rfl rfl rfl (OpJ.assign rfl rfl) ?_
    refine AList.nil ?_
    refine AWp.seq ?_
    refine AWp.region ?_
    refine AList.c 6 rfl rfl rfl (OpJ.assign rfl rfl) ?_
    refine AList.nil ?_
    refine AWp.seq ?_
    refine AWp.seq ?_
    refine AWp.region ?_
    refine AList.c 7 rfl rfl rfl (OpJ.assign rfl rfl) ?_
    refine AList.nil ?_
    refine AWp.block ?_
    refine AWp.loopHL [0, 4, 17, 18, 132, 133, 134, 135, 136, 137, 138, 139, 140, 141, 142, 143, 144] (fun (g : Nat × List Rpt) => [(7, .p (.int .i64 ((g.1 : Nat) : Int))), (6, accV 0 g.2.length)]) (fun (g : Nat × List Rpt) => [accB (rxV g.2) 46 g.2.length, accB (skV (laR g.2)) 63 (laR g.2).strokes.length]) (fun (g : Nat × List Rpt) => g.1 ≤ (lnsG [] s).length ∧ rrL (lnsG [] s) [] = rrL ((lnsG [] s).drop g.1) g.2 ∧ g.2.length ≤ g.1 ∧ (laR g.2).strokes.length ≤ g.1) (fun (g : Nat × List Rpt) => (lnsG [] s).length - g.1) (0, []) ⟨Nat.zero_le _, rfl, Nat.le_refl _, Nat.le_refl _⟩ (To.pad.trans (To.pad.trans (To.sub (Sub.chk (Sub.cons rfl (Sub.cons rfl Sub.nil)))))) (fun g hg => ?_)
    obtain ⟨i, out⟩ := g
    obtain ⟨hi, hI, hol, hsl⟩ := hg
    dsimp only at hi hI hol hsl ⊢
    refine AWp.seq ?_
    refine AWp.seq ?_
    refine AWp.region ?_
    refine AList.c 27 rfl rfl rfl (OpJ.move rfl rfl) ?_
    refine AList.c 28 rfl rfl rfl (OpJ.move rfl rfl) ?_
    refine AList.c 29 rfl rfl rfl (OpJ.lenSlice rfl rfl sl91 rfl) ?_
    refine AList.c 30 rfl rfl rfl (OpJ.lss rfl rfl rfl) ?_
    refine AList.nil ?_
    refine AWp.cond _ rfl (fun hc1 => ?_) (fun hc1 => ?_)
    · skip
      have hk0 : i < (lnsG [] s).length := by have h := of_decide_eq_true hc1; omega
      rw [drop_at hk0] at hI
      refine AWp.skip ?_
      refine AWp.seq ?_
      refine AWp.block ?_
      refine AWp.seq ?_
      refine AWp.region ?_
      refine AList.c 34 rfl rfl rfl (OpJ.move rfl rfl) ?_
      refine AList.c 35 rfl rfl rfl (OpJ.move rfl rfl) ?_
      refine AList.c 36 rfl rfl rfl (OpJ.indexG (g := gt [] (lnsG [] s)) (gt_get _) rfl rfl rfl sl91 el91 rfl (fun _ => rfl) (by decide) hk0) ?_
      refine AList.c 37 rfl rfl rfl (OpJ.load (v := .p (.str (sB (gt [] (lnsG [] s) i)))) rfl rfl ty9 rfl) ?_
      refine AList.c 38 rfl rfl rfl (OpJ.callP (after_ok (gt [] (lnsG [] s) i) batT) rfl rfl rfl rfl rf50) ?_
      refine AList.c 33 rfl rfl rfl (OpJ.move rfl rfl) ?_
      refine AList.c 39 rfl rfl rfl (OpJ.extract rfl rfl rfl) ?_
      refine AList.c 40 rfl rfl rfl (OpJ.extract rfl rfl rfl) ?_
      refine AList.c 8 rfl rfl rfl (OpJ.assign rfl rfl) ?_
      refine AList.c 9 rfl rfl rfl (OpJ.assign rfl rfl) ?_
      refine AList.nil ?_
      refine AWp.seq ?_
      refine AWp.seq ?_
      refine AWp.region ?_
      refine AList.c 41 rfl rfl rfl (OpJ.move rfl rfl) ?_
      refine AList.nil ?_
      refine AWp.cond _ rfl (fun hc2 => ?_) (fun hc2 => ?_)
      · skip
        have hp : preB batT (gt [] (lnsG [] s) i) = true := hc2
        rw [show (if preB batT (gt [] (lnsG [] s) i) = true then List.drop batT.length (gt [] (lnsG [] s) i) else []) = (gt [] (lnsG [] s) i).drop 6 from if_pos hp]
        refine AWp.seq ?_
        refine AWp.region ?_
        refine AList.c 43 rfl rfl rfl (OpJ.move rfl rfl) ?_
        refine AList.c 44 rfl rfl rfl (OpJ.callP (figure_ok ((gt [] (lnsG [] s) i).drop 6)) rfl rfl rfl rfl rf51) ?_
        refine AList.c 42 rfl rfl rfl (OpJ.move rfl rfl) ?_
        refine AList.c 45 rfl rfl rfl (OpJ.extract rfl rfl rfl) ?_
        refine AList.c 46 rfl rfl rfl (OpJ.extract rfl rfl rfl) ?_
        refine AList.c 10 rfl rfl rfl (OpJ.assign rfl rfl) ?_
        refine AList.c 11 rfl rfl rfl (OpJ.assign rfl rfl) ?_
        refine AList.nil ?_
        refine AWp.seq ?_
        refine AWp.to (rp_to out (T2 := [(0, .p (.str (sB s))), (4, .p (lnsV (lnsG [] s))), (6, accV 0 out.length), (7, .p (.int .i64 ((i : Nat) : Int))), (10, .p (.int .i64 ((figP ((gt [] (lnsG [] s) i).drop 6)).1 : Nat)))]) (fun xs => Sub.cons rfl (Sub.cons rfl (Sub.cons (by show some (frzV 1 xs (accV 0 _)) = _; rw [frz_acc0]) (Sub.cons rfl (Sub.cons rfl Sub.nil))))) (by repeat (first | exact Sub.nil | refine Sub.cons rfl ?_))) ?_
        refine AWp.region ?_
        refine AList.c 47 rfl rfl rfl (OpJ.move rfl rfl) ?_
        refine AList.c 48 rfl rfl rfl (OpJ.move rfl rfl) ?_
        refine AList.c 49 rfl rfl rfl (OpJ.buildR (v := .p (.agg [.int .i64 ((figP ((gt [] (lnsG [] s) i).drop 6)).1 : Nat), .nilSlice, .int .i64 0, .int .i64 0, .int .i64 0, .int .i64 0])) rfl bd46 rfl rfl rfl) ?_
        refine AList.c 50 rfl rfl rfl (OpJ.buildImm rfl slz22 (by decide) rfl rfl rfl) ?_
        refine AList.c 51 rfl rfl rfl (OpJ.appendAcc rfl rfl rfl slz22 sl22 rfl ?_ rfl (by decide) rfl by46 (by decide) ?_) ?_
        · rw [List.length_map, AF.flat_len (c := 6) (fun _ => rfl)]; rfl
        · show (2 * (out.length + 1) + 192) * 64 ≤ 281474976710656; omega
        refine AList.c 6 rfl rfl rfl (OpJ.assign rfl rfl) ?_
        refine AList.nil ?_
        refine AWp.exit ?_
        refine AWp.region ?_
        refine AList.c 31 rfl rfl rfl (OpJ.move rfl rfl) ?_
        refine AList.c 32 rfl rfl rfl (OpJ.add (m := ((i + 1 : Nat) : Int)) rfl rfl rfl ((i64ok ?_).trans ?_)) ?_
        · omega
        · omega
        refine AList.c 7 rfl rfl rfl (OpJ.assign rfl rfl) ?_
        refine AList.nil ?_
        refine ⟨(i + 1, out ++ [newR (gt [] (lnsG [] s) i)]), ?_, ?_, ?_⟩
        · rw [rrL_b hp] at hI
          exact ⟨hk0, hI, by rw [len_app]; show out.length + 1 ≤ i + 1; omega, by rw [laR_app]; exact Nat.zero_le _⟩
        · show (lnsG [] s).length - (i + 1) < (lnsG [] s).length - i
          omega
        rw [len_app, rx_app, laR_app]
        refine To.done [2, 1] rfl (by repeat (first | exact Sub.nil | refine Sub.cons rfl ?_)) ?_
        show [Blk.row (renL _ (preV out ++ _)) _, _] = [Blk.row _ _, _]
        rw [renL_pre]
        rfl
      · skip
        have hp : preB batT (gt [] (lnsG [] s) i) = false := hc2
        refine AWp.skip ?_
        refine AWp.seq ?_
        refine AWp.seq ?_
        refine AWp.region ?_
        refine AList.c 52 rfl rfl rfl (OpJ.move rfl rfl) ?_
        refine AList.c 53 rfl rfl rfl (OpJ.lenSlice rfl rfl sl22 (alen_acc _ _)) ?_
        refine AList.c 54 rfl rfl rfl (OpJ.eql rfl rfl rfl) ?_
        refine AList.nil ?_
        refine AWp.cond _ rfl (fun hc3 => ?_) (fun hc3 => ?_)
        · skip
          have hz : out = [] := by have h := of_decide_eq_true hc3; exact List.length_eq_zero_iff.1 (by omega)
          subst hz
          have hno : refR s = none := by unfold refR; rw [hI, rrL_n hp]
          refine AWp.seq ?_
          refine AWp.region ?_
          refine AList.c 2 rfl rfl rfl (OpJ.assign rfl rfl) ?_
          refine AList.c 3 rfl rfl rfl (OpJ.assign rfl rfl) ?_
          refine AList.nil ?_
          refine AWp.ret ?_
          refine Fin.manyE (xs := [.nilSlice, .int .i64 8]) rfl ⟨_, _, rfl, rfl, ⟨_, _, rfl, rfl, rfl⟩⟩ rfl ?_
          rw [opR_ref_none hs hno]
        · skip
          have hne : out ≠ [] := fun e => by subst e; exact absurd rfl (of_decide_eq_false hc3)
          rw [rrL_u hp hne] at hI
          obtain ⟨done, r, rfl⟩ := lst_out hne
          rw [List.dropLast_concat, laR_app] at hI
          rw [len_app] at hol
          rw [laR_app] at hsl
          rw [rx_app, laR_app, len_app]
          refine AWp.skip ?_
          refine AWp.seq ?_
          refine AWp.region ?_
          refine AList.c 55 rfl rfl rfl (OpJ.move rfl rfl) ?_
          refine AList.c 56 rfl rfl rfl (OpJ.move rfl rfl) ?_
          refine AList.c 57 rfl rfl rfl (OpJ.lenSlice rfl rfl sl22 rfl) ?_
          refine AList.c 58 rfl rfl rfl (OpJ.sub_ (m := ((done.length : Nat) : Int)) rfl rfl rfl ((i64ok ?_).trans ?_)) ?_
          · omega
          · omega
          refine AList.c 59 rfl rfl rfl (OpJ.indexRow rfl rfl rfl sl22 el22 (by omega)) ?_
          refine AList.c 12 rfl rfl rfl (OpJ.assign rfl rfl) ?_
          refine AList.nil ?_
          refine AWp.seq ?_
          refine AWp.region ?_
          refine AList.c 61 rfl rfl rfl (OpJ.move rfl rfl) ?_
          refine AList.c 62 rfl rfl rfl (OpJ.move rfl rfl) ?_
          refine AList.c 63 rfl rfl rfl (OpJ.indexG (g := gt [] (lnsG [] s)) (gt_get _) rfl rfl rfl sl91 el91 rfl (fun _ => rfl) (by decide) hk0) ?_
          refine AList.c 64 rfl rfl rfl (OpJ.load (v := .p (.str (sB (gt [] (lnsG [] s) i)))) rfl rfl ty9 rfl) ?_
          refine AList.c 65 rfl rfl rfl (OpJ.callP (after_ok (gt [] (lnsG [] s) i) sthT) rfl rfl rfl rfl rf50) ?_
          refine AList.c 60 rfl rfl rfl (OpJ.move rfl rfl) ?_
          refine AList.c 66 rfl rfl rfl (OpJ.extract rfl rfl rfl) ?_
          refine AList.c 67 rfl rfl rfl (OpJ.extract rfl rfl rfl) ?_
          refine AList.c 8 rfl rfl rfl (OpJ.assign rfl rfl) ?_
          refine AList.c 9 rfl rfl rfl (OpJ.assign rfl rfl) ?_
          refine AList.nil ?_
          refine AWp.join (fun (g : Unit) => [(4, .p (lnsV (lnsG [] s))), (6, accV 0 (done.length + 1)), (7, .p (.int .i64 ((i : Nat) : Int))), (12, .ptr 0 (done.length * 6)), (0, .p (.str (sB s)))]) (fun (g : Unit) => [.row (preV done ++ lastV (upS r (gt [] (lnsG [] s) i))) 46, accB (skV (upS r (gt [] (lnsG [] s) i))) 63 (upS r (gt [] (lnsG [] s) i)).strokes.length]) (fun (g : Unit) => True) ?_ (fun g hg => ?_)
          · skip
            refine AWp.seq ?_
            refine AWp.region ?_
            refine AList.c 68 rfl rfl rfl (OpJ.move rfl rfl) ?_
            refine AList.nil ?_
            refine AWp.cond _ rfl (fun hc4 => ?_) (fun hc4 => ?_)
            · skip
              have hp4 : preB sthT (gt [] (lnsG [] s) i) = true := hc4
              rw [show (if preB sthT (gt [] (lnsG [] s) i) = true then List.drop sthT.length (gt [] (lnsG [] s) i) else []) = (gt [] (lnsG [] s) i).drop 9 from if_pos hp4]
              refine AWp.region ?_
              refine AList.c 70 rfl rfl rfl (OpJ.move rfl rfl) ?_
              refine AList.c 71 rfl rfl rfl (OpJ.move rfl rfl) ?_
              refine AList.c 72 rfl rfl rfl (OpJ.callP (spanOf_ok ((gt [] (lnsG [] s) i).drop 9)) rfl rfl rfl rfl rf52) ?_
              refine AList.c 69 rfl rfl rfl (OpJ.move rfl rfl) ?_
              refine AList.c 73 rfl rfl rfl (OpJ.extract rfl rfl rfl) ?_
              refine AList.c 74 rfl rfl rfl (OpJ.extract rfl rfl rfl) ?_
              refine AList.c 75 rfl rfl rfl (OpJ.nilCheck rfl rfl) ?_
              refine AList.c 76 rfl rfl rfl (OpJ.fieldAddr rfl rfl fd46_2 rfl) ?_
              refine AList.c0 rfl rfl (OpJ.store (H' := [.row (preV done ++ lastV (Rpt.mk r.batch r.strokes (spfP ((gt [] (lnsG [] s) i).drop 9)).1 r.wear)) 46, accB (skV (Rpt.mk r.batch r.strokes (spfP ((gt [] (lnsG [] s) i).drop 9)).1 r.wear)) 63 (Rpt.mk r.batch r.strokes (spfP ((gt [] (lnsG [] s) i).drop 9)).1 r.wear).strokes.length]) rfl rfl rfl rfl rfl ty44 rfl (astore_tail (pre := preV done) (m := 2) rfl (by rw [preV_len]) (by show 2 + 2 ≤ 6; decide) rfl)) ?_
              refine AList.nil ?_
              rw [upS_y hp4]
              exact ⟨(), trivial, To.sub (by repeat (first | exact Sub.nil | refine Sub.cons rfl ?_))⟩
            · skip
              have hp4 : preB sthT (gt [] (lnsG [] s) i) = false := hc4
              refine AWp.skip ?_
              rw [upS_n hp4]
              exact ⟨(), trivial, To.sub (by repeat (first | exact Sub.nil | refine Sub.cons rfl ?_))⟩
          · skip
            refine AWp.seq ?_
            refine AWp.region ?_
            refine AList.c 78 rfl rfl rfl (OpJ.move rfl rfl) ?_
            refine AList.c 79 rfl rfl rfl (OpJ.move rfl rfl) ?_
            refine AList.c 80 rfl rfl rfl (OpJ.indexG (g := gt [] (lnsG [] s)) (gt_get _) rfl rfl rfl sl91 el91 rfl (fun _ => rfl) (by decide) hk0) ?_
            refine AList.c 81 rfl rfl rfl (OpJ.load (v := .p (.str (sB (gt [] (lnsG [] s) i)))) rfl rfl ty9 rfl) ?_
            refine AList.c 82 rfl rfl rfl (OpJ.callP (after_ok (gt [] (lnsG [] s) i) weaW) rfl rfl rfl rfl rf50) ?_
            refine AList.c 77 rfl rfl rfl (OpJ.move rfl rfl) ?_
            refine AList.c 83 rfl rfl rfl (OpJ.extract rfl rfl rfl) ?_
            refine AList.c 84 rfl rfl rfl (OpJ.extract rfl rfl rfl) ?_
            refine AList.c 8 rfl rfl rfl (OpJ.assign rfl rfl) ?_
            refine AList.c 9 rfl rfl rfl (OpJ.assign rfl rfl) ?_
            refine AList.nil ?_
            refine AWp.join (fun (g : Unit) => [(4, .p (lnsV (lnsG [] s))), (6, accV 0 (done.length + 1)), (7, .p (.int .i64 ((i : Nat) : Int))), (12, .ptr 0 (done.length * 6)), (0, .p (.str (sB s)))]) (fun (g : Unit) => [.row (preV done ++ lastV (upW (upS r (gt [] (lnsG [] s) i)) (gt [] (lnsG [] s) i))) 46, accB (skV (upW (upS r (gt [] (lnsG [] s) i)) (gt [] (lnsG [] s) i))) 63 (upW (upS r (gt [] (lnsG [] s) i)) (gt [] (lnsG [] s) i)).strokes.length]) (fun (g : Unit) => True) ?_ (fun g hg => ?_)
            · skip
              refine AWp.seq ?_
              refine AWp.region ?_
              refine AList.c 85 rfl rfl rfl (OpJ.move rfl rfl) ?_
              refine AList.nil ?_
              refine AWp.cond _ rfl (fun hc5 => ?_) (fun hc5 => ?_)
              · skip
                have hp5 : preB weaW (gt [] (lnsG [] s) i) = true := hc5
                rw [show (if preB weaW (gt [] (lnsG [] s) i) = true then List.drop weaW.length (gt [] (lnsG [] s) i) else []) = (gt [] (lnsG [] s) i).drop 5 from if_pos hp5]
                refine AWp.region ?_
                refine AList.c 87 rfl rfl rfl (OpJ.move rfl rfl) ?_
                refine AList.c 88 rfl rfl rfl (OpJ.move rfl rfl) ?_
                refine AList.c 89 rfl rfl rfl (OpJ.callP (spanOf_ok ((gt [] (lnsG [] s) i).drop 5)) rfl rfl rfl rfl rf52) ?_
                refine AList.c 86 rfl rfl rfl (OpJ.move rfl rfl) ?_
                refine AList.c 90 rfl rfl rfl (OpJ.extract rfl rfl rfl) ?_
                refine AList.c 91 rfl rfl rfl (OpJ.extract rfl rfl rfl) ?_
                refine AList.c 92 rfl rfl rfl (OpJ.nilCheck rfl rfl) ?_
                refine AList.c 93 rfl rfl rfl (OpJ.fieldAddr rfl rfl fd46_3 rfl) ?_
                refine AList.c0 rfl rfl (OpJ.store (H' := [.row (preV done ++ lastV (Rpt.mk (upS r (gt [] (lnsG [] s) i)).batch (upS r (gt [] (lnsG [] s) i)).strokes (upS r (gt [] (lnsG [] s) i)).strength (spfP ((gt [] (lnsG [] s) i).drop 5)).1)) 46, accB (skV (Rpt.mk (upS r (gt [] (lnsG [] s) i)).batch (upS r (gt [] (lnsG [] s) i)).strokes (upS r (gt [] (lnsG [] s) i)).strength (spfP ((gt [] (lnsG [] s) i).drop 5)).1)) 63 (Rpt.mk (upS r (gt [] (lnsG [] s) i)).batch (upS r (gt [] (lnsG [] s) i)).strokes (upS r (gt [] (lnsG [] s) i)).strength (spfP ((gt [] (lnsG [] s) i).drop 5)).1).strokes.length]) rfl rfl rfl rfl rfl ty44 rfl (astore_tail (pre := preV done) (m := 4) rfl (by rw [preV_len]) (by show 4 + 2 ≤ 6; decide) rfl)) ?_
                refine AList.nil ?_
                rw [upW_y hp5]
                exact ⟨(), trivial, To.sub (by repeat (first | exact Sub.nil | refine Sub.cons rfl ?_))⟩
              · skip
                have hp5 : preB weaW (gt [] (lnsG [] s) i) = false := hc5
                refine AWp.skip ?_
                rw [upW_n hp5]
                exact ⟨(), trivial, To.sub (by repeat (first | exact Sub.nil | refine Sub.cons rfl ?_))⟩
            · skip
              refine AWp.seq ?_
              refine AWp.region ?_
              refine AList.c 95 rfl rfl rfl (OpJ.move rfl rfl) ?_
              refine AList.c 96 rfl rfl rfl (OpJ.move rfl rfl) ?_
              refine AList.c 97 rfl rfl rfl (OpJ.indexG (g := gt [] (lnsG [] s)) (gt_get _) rfl rfl rfl sl91 el91 rfl (fun _ => rfl) (by decide) hk0) ?_
              refine AList.c 98 rfl rfl rfl (OpJ.load (v := .p (.str (sB (gt [] (lnsG [] s) i)))) rfl rfl ty9 rfl) ?_
              refine AList.c 99 rfl rfl rfl (OpJ.callP (after_ok (gt [] (lnsG [] s) i) skT) rfl rfl rfl rfl rf50) ?_
              refine AList.c 94 rfl rfl rfl (OpJ.move rfl rfl) ?_
              refine AList.c 100 rfl rfl rfl (OpJ.extract rfl rfl rfl) ?_
              refine AList.c 101 rfl rfl rfl (OpJ.extract rfl rfl rfl) ?_
              refine AList.c 8 rfl rfl rfl (OpJ.assign rfl rfl) ?_
              refine AList.c 9 rfl rfl rfl (OpJ.assign rfl rfl) ?_
              refine AList.nil ?_
              refine AWp.seq ?_
              refine AWp.region ?_
              refine AList.c 102 rfl rfl rfl (OpJ.move rfl rfl) ?_
              refine AList.nil ?_
              refine AWp.cond _ rfl (fun hc6 => ?_) (fun hc6 => ?_)
              · skip
                have hp6 : preB skT (gt [] (lnsG [] s) i) = true := hc6
                rw [show (if preB skT (gt [] (lnsG [] s) i) = true then List.drop skT.length (gt [] (lnsG [] s) i) else []) = ((gt [] (lnsG [] s) i).drop 7) from if_pos hp6]
                rw [upK_y hp6] at hI
                have h12 : (upW (upS r (gt [] (lnsG [] s) i)) (gt [] (lnsG [] s) i)).strokes = r.strokes := up12 r (gt [] (lnsG [] s) i)
                refine AWp.seq ?_
                refine AWp.region ?_
                refine AList.c 104 rfl rfl rfl (OpJ.move rfl rfl) ?_
                refine AList.c 105 rfl rfl rfl (OpJ.callP (spanOf_ok ((gt [] (lnsG [] s) i).drop 7)) rfl rfl rfl rfl rf52) ?_
                refine AList.c 103 rfl rfl rfl (OpJ.move rfl rfl) ?_
                refine AList.c 106 rfl rfl rfl (OpJ.extract rfl rfl rfl) ?_
                refine AList.c 107 rfl rfl rfl (OpJ.extract rfl rfl rfl) ?_
                refine AList.c 13 rfl rfl rfl (OpJ.allocOwn rfl zr44 rfl) ?_
                refine AList.c0 rfl rfl (OpJ.store rfl rfl rfl rfl rfl ty44 rfl rfl) ?_
                refine AList.c 14 rfl rfl rfl (OpJ.assign rfl rfl) ?_
                refine AList.nil ?_
                refine AWp.seq ?_
                refine AWp.region ?_
                refine AList.c 109 rfl rfl rfl (OpJ.move rfl rfl) ?_
                refine AList.c 110 rfl rfl rfl (OpJ.move rfl rfl) ?_
                refine AList.c 111 rfl rfl rfl (OpJ.strCut ((gt [] (lnsG [] s) i).drop 7) (spfP ((gt [] (lnsG [] s) i).drop 7)).2 ((gt [] (lnsG [] s) i).drop 7).length rfl rfl st9 ⟨_, rfl⟩ rfl (spf_le _) (Nat.le_refl _)) ?_
                rw [cut_all]
                refine AList.c 112 rfl rfl rfl (OpJ.callP (after_ok (((gt [] (lnsG [] s) i).drop 7).drop (spfP ((gt [] (lnsG [] s) i).drop 7)).2) onT) rfl rfl rfl rfl rf50) ?_
                refine AList.c 108 rfl rfl rfl (OpJ.move rfl rfl) ?_
                refine AList.c 113 rfl rfl rfl (OpJ.extract rfl rfl rfl) ?_
                refine AList.c 114 rfl rfl rfl (OpJ.extract rfl rfl rfl) ?_
                refine AList.c 8 rfl rfl rfl (OpJ.assign rfl rfl) ?_
                refine AList.nil ?_
                refine AWp.seq ?_
                refine AWp.region ?_
                refine AList.c 116 rfl rfl rfl (OpJ.move rfl rfl) ?_
                refine AList.c 117 rfl rfl rfl (OpJ.callP (spanOf_ok _) rfl rfl rfl rfl rf52) ?_
                refine AList.c 115 rfl rfl rfl (OpJ.move rfl rfl) ?_
                refine AList.c 118 rfl rfl rfl (OpJ.extract rfl rfl rfl) ?_
                refine AList.c 119 rfl rfl rfl (OpJ.extract rfl rfl rfl) ?_
                refine AList.c 15 rfl rfl rfl (OpJ.allocOwn rfl zr44 rfl) ?_
                refine AList.c0 rfl rfl (OpJ.store rfl rfl rfl rfl rfl ty44 rfl rfl) ?_
                refine AList.c 16 rfl rfl rfl (OpJ.assign rfl rfl) ?_
                refine AList.nil ?_
                refine AWp.regionDrawG 10 1 [1, 4] [([], false), ([], false), ([], false), ([], false), ([], false), ([], false), ([], false), ([], false), ([], false), ([4, 1], true)] mixed (by kernel_rfl) (by decide) (by kernel_rfl) rfl (by show [Blk.row (renL (sg 4 []) (preV done ++ lastV _)) _, renB (sg 4 []) (accB (skV _) _ _), _, _] = _; rw [renL_pre, lastV_ren (σ := sg 4 []) rfl, skB_ren]; rfl) ?_
                refine AQG.cons 120 rfl rfl rfl (fun _ => (OpJ.move rfl rfl)) rfl ?_
                refine AQG.cons 121 rfl rfl rfl (fun _ => (OpJ.move rfl rfl)) rfl ?_
                refine AQG.cons 122 rfl rfl rfl (fun _ => (OpJ.nilCheck rfl rfl)) rfl ?_
                refine AQG.cons 123 rfl rfl rfl (fun _ => (OpJ.fieldAddr rfl rfl fd46_1 rfl)) rfl ?_
                refine AQG.cons 124 rfl rfl rfl (fun _ => (OpJ.loadCell (k := done.length * 6 + 1) (v := accV 1 (upW (upS r (gt [] (lnsG [] s) i)) (gt [] (lnsG [] s) i)).strokes.length) rfl rfl ty42 rfl rfl (get_tail (by rw [preV_len]) rfl))) (accV_renI rfl) ?_
                refine AQG.cons 125 rfl rfl rfl (fun _ => (OpJ.load (v := .p (.agg (spfP ((gt [] (lnsG [] s) i).drop 7)).1.cells)) rfl rfl ty44 rfl)) rfl ?_
                refine AQG.cons 126 rfl rfl rfl (fun _ => (OpJ.load (v := .p (.agg (stkF ((gt [] (lnsG [] s) i).drop 7)).paper.cells)) rfl rfl ty44 rfl)) rfl ?_
                refine AQG.cons 127 rfl rfl rfl (fun _ => (OpJ.buildR (v := .p (.agg (stkF ((gt [] (lnsG [] s) i).drop 7)).cells)) rfl bd63 rfl rfl rfl)) rfl ?_
                refine AQG.cons 128 rfl rfl rfl (fun _ => (OpJ.buildImm rfl slz42 (by decide) rfl rfl rfl)) rfl ?_
                refine AQG.turn (blk := .row (skV (upW (upS r (gt [] (lnsG [] s) i)) (gt [] (lnsG [] s) i)) ++ (stkF ((gt [] (lnsG [] s) i).drop 7)).cells.map .p) 63) (v0 := .row 5 _) 129 4 1 rfl rfl rfl rfl rfl rfl rfl rfl rfl rfl (fun _ => (OpJ.appendAcc (i := 1) (len := (upW (upS r (gt [] (lnsG [] s) i)) (gt [] (lnsG [] s) i)).strokes.length) (n := 1) (cs := skV (upW (upS r (gt [] (lnsG [] s) i)) (gt [] (lnsG [] s) i))) (ys := (stkF ((gt [] (lnsG [] s) i).drop 7)).cells.map .p) rfl rfl rfl slz42 sl42 rfl (by unfold skV; rw [List.length_map, AF.flat_len (c := 4) (fun _ => rfl)]; rfl) rfl (by decide) rfl by63 (by decide) (by rw [h12]; show (2 * (r.strokes.length + 1) + 192) * 32 ≤ 281474976710656; omega))) rfl rfl (by show Blk.row (renL _ (skV _ ++ _)) _ = _; rw [renL_app, skV_ren]; rfl) ?_
                refine AQG.nil ?_
                refine AList.c 130 rfl rfl rfl (OpJ.nilCheck rfl rfl) ?_
                refine AList.c 131 rfl rfl rfl (OpJ.fieldAddr rfl rfl fd46_1 rfl) ?_
                refine AList.c0 rfl rfl (OpJ.storeVac (j := 4) (n := (upW (upS r (gt [] (lnsG [] s) i)) (gt [] (lnsG [] s) i)).strokes.length + 1) rfl rfl rfl ty42 (astore_tail (pre := preV done) (m := 1) rfl (by rw [preV_len]) (by show 1 + 1 ≤ 6; decide) rfl)) ?_
                refine AList.nil ?_
                refine AWp.region ?_
                refine AList.c 31 rfl rfl rfl (OpJ.move rfl rfl) ?_
                refine AList.c 32 rfl rfl rfl (OpJ.add (m := ((i + 1 : Nat) : Int)) rfl rfl rfl ((i64ok ?_).trans ?_)) ?_
                · omega
                · omega
                refine AList.c 7 rfl rfl rfl (OpJ.assign rfl rfl) ?_
                refine AList.nil ?_
                refine ⟨(i + 1, done ++ [⟨(upW (upS r (gt [] (lnsG [] s) i)) (gt [] (lnsG [] s) i)).batch, (upW (upS r (gt [] (lnsG [] s) i)) (gt [] (lnsG [] s) i)).strokes ++ [stkF ((gt [] (lnsG [] s) i).drop 7)], (upW (upS r (gt [] (lnsG [] s) i)) (gt [] (lnsG [] s) i)).strength, (upW (upS r (gt [] (lnsG [] s) i)) (gt [] (lnsG [] s) i)).wear⟩]), ?_, ?_, ?_⟩
                · exact ⟨hk0, hI, by rw [len_app]; show done.length + 1 ≤ i + 1; omega, by rw [laR_app, List.length_append, h12]; show r.strokes.length + 1 ≤ i + 1; omega⟩
                · show (lnsG [] s).length - (i + 1) < (lnsG [] s).length - i
                  omega
                rw [len_app, rx_app, laR_app]
                have eL : ((upW (upS r (gt [] (lnsG [] s) i)) (gt [] (lnsG [] s) i)).strokes ++ [stkF ((gt [] (lnsG [] s) i).drop 7)]).length = (upW (upS r (gt [] (lnsG [] s) i)) (gt [] (lnsG [] s) i)).strokes.length + 1 := by rw [List.length_append]; rfl
                unfold skV lastV
                dsimp only
                rw [eL, List.flatMap_append]
                refine To.done [0, 4] rfl (by repeat (first | exact Sub.nil | refine Sub.cons rfl ?_)) ?_
                show [Blk.row (renL _ (preV done ++ _)) _, Blk.row (renL _ (_ ++ _)) _] = [Blk.row _ _, Blk.row _ _]
                rw [renL_pre, renL_app, renL_pure, List.map_append]
                rfl
              · skip
                have hp6 : preB skT (gt [] (lnsG [] s) i) = false := hc6
                rw [upK_n hp6] at hI
                refine AWp.skip ?_
                refine AWp.region ?_
                refine AList.c 31 rfl rfl rfl (OpJ.move rfl rfl) ?_
                refine AList.c 32 rfl rfl rfl (OpJ.add (m := ((i + 1 : Nat) : Int)) rfl rfl rfl ((i64ok ?_).trans ?_)) ?_
                · omega
                · omega
                refine AList.c 7 rfl rfl rfl (OpJ.assign rfl rfl) ?_
                refine AList.nil ?_
                refine ⟨(i + 1, done ++ [(upW (upS r (gt [] (lnsG [] s) i)) (gt [] (lnsG [] s) i))]), ?_, ?_, ?_⟩
                · exact ⟨hk0, hI, by rw [len_app]; show done.length + 1 ≤ i + 1; omega, by rw [laR_app, up12 r (gt [] (lnsG [] s) i)]; show r.strokes.length ≤ i + 1; omega⟩
                · show (lnsG [] s).length - (i + 1) < (lnsG [] s).length - i
                  omega
                rw [len_app, rx_app, laR_app]
                exact To.sub (by repeat (first | exact Sub.nil | refine Sub.cons rfl ?_))
    · skip
      have hi2 : i = (lnsG [] s).length := by have h := of_decide_eq_false hc1; omega
      rw [hi2, List.drop_length] at hI
      have hout : refR s = some out := hI
      have hbo := rrL_n2 _ [] out 0 hI (fun r hr => by cases hr)
      refine AWp.to (rp_to out (T2 := [(0, .p (.str (sB s))), (6, accV 0 out.length)]) (fun xs => Sub.cons rfl (Sub.cons (by show some (frzV 1 xs (accV 0 _)) = _; rw [frz_acc0]) Sub.nil)) (by repeat (first | exact Sub.nil | refine Sub.cons rfl ?_))) ?_
      refine AWp.to (To.accD 6 0 out.length (xs := out.flatMap Rpt.cells) rfl rfl (fun h => by rw [List.length_eq_zero_iff.1 h]; rfl)) ?_
      refine AWp.exit ?_
      refine AWp.seq ?_
      refine AWp.region ?_
      refine AList.c 133 rfl rfl rfl (OpJ.move rfl rfl) ?_
      refine AList.c 134 rfl rfl rfl (OpJ.callP (rwriteR_ok out (by unfold bigN; omega) (fun x hx => by have h := hbo x hx; unfold bigN; omega)) rfl rfl rfl rfl rf8) ?_
      refine AList.c 132 rfl rfl rfl (OpJ.move rfl rfl) ?_
      refine AList.c 135 rfl rfl rfl (OpJ.extract rfl rfl rfl) ?_
      refine AList.c 136 rfl rfl rfl (OpJ.extract rfl rfl rfl) ?_
      refine AList.c 17 rfl rfl rfl (OpJ.assign rfl rfl) ?_
      refine AList.c 18 rfl rfl rfl (OpJ.assign rfl rfl) ?_
      refine AList.nil ?_
      refine AWp.seq ?_
      refine AWp.seq ?_
      refine AWp.region ?_
      refine AList.c 137 rfl rfl rfl (OpJ.move rfl rfl) ?_
      refine AList.c 138 rfl rfl rfl (OpJ.neq rfl rfl rfl) ?_
      refine AList.c 139 rfl rfl rfl (OpJ.move rfl rfl) ?_
      refine AList.g 140 139 rfl rfl rfl rfl rfl rfl rfl [(17, _)] (fun h => And.intro (.inl rfl) (trivial)) (fun h => (OpJ.move rfl rfl)) ?_
      refine AList.g 141 139 rfl rfl rfl rfl rfl rfl rfl [(0, _)] (fun h => And.intro (.inl rfl) (trivial)) (fun h => (OpJ.move rfl rfl)) ?_
      refine AList.g 142 139 rfl rfl rfl rfl rfl rfl rfl [(140, _), (141, _)] (fun h => And.intro (.inr ⟨_, rfl, h⟩) (And.intro (.inr ⟨_, rfl, h⟩) (trivial))) (fun h => (OpJ.strNe (wrR out).1 s rfl rfl rfl)) ?_
      refine AList.c 143 rfl rfl rfl (OpJ.or_ rfl rfl rfl ?_) ?_
      · first | (intro h; rw [h]; rfl) | (intro h; simp_all)
      refine AList.nil ?_
      refine AWp.cond _ rfl (fun hc7 => ?_) (fun hc7 => ?_)
      · skip
        have hno : ¬ ((wrR out).2 = 0 ∧ (wrR out).1 = s) := fun e => by simp [e.1, e.2] at hc7
        refine AWp.seq ?_
        refine AWp.region ?_
        refine AList.c 2 rfl rfl rfl (OpJ.assign rfl rfl) ?_
        refine AList.c 3 rfl rfl rfl (OpJ.assign rfl rfl) ?_
        refine AList.nil ?_
        refine AWp.ret ?_
        refine Fin.manyE (xs := [.nilSlice, .int .i64 8]) rfl ⟨_, _, rfl, rfl, ⟨_, _, rfl, rfl, rfl⟩⟩ rfl ?_
        rw [opR_ref hs hout, if_neg hno]
      · skip
        have hyes : (wrR out).2 = 0 ∧ (wrR out).1 = s := by simpa using hc7
        refine AWp.skip ?_
        refine AWp.seq ?_
        refine AWp.region ?_
        refine AList.c 144 rfl rfl rfl (OpJ.move rfl rfl) ?_
        refine AList.c 2 rfl rfl rfl (OpJ.assign rfl rfl) ?_
        refine AList.c 3 rfl rfl rfl (OpJ.assign rfl rfl) ?_
        refine AList.nil ?_
        refine AWp.ret ?_
        refine Fin.manyE (xs := [rptsV out, .int .i64 0]) rfl ⟨_, _, rfl, rfl, ⟨_, _, rfl, rfl, rfl⟩⟩ rfl ?_
        rw [opR_ref hs hout, if_pos hyes]
end Go.Proofs.YtcmkdegeljjalaaGreatDoor
end

section
set_option linter.unusedVariables false
set_option maxRecDepth 100000
set_option maxHeartbeats 4000000
set_option linter.unusedSimpArgs false
namespace Go.Proofs.YtcmkdegeljjalaaGreatDoor
open Go.AF
theorem longOf_ok (s : Bs) : Pure Tryz.prog 55 [.str (sB s)] (.tuple [.int .i64 (((lfP s).1 : Nat) : Int), .int .i64 (((lfP s).2 : Nat) : Int)]) := by
  refine Pure.start (N := 35) Tryz.func55 rfl rfl (Nat.le_of_ble_eq_true rfl) ?_
  refine AWp.seq ?_
  refine AWp.region ?_
  refine AList.c 2 rfl rfl rfl (OpJ.assign rfl rfl) ?_
  refine AList.c 3 rfl rfl rfl (OpJ.assign rfl rfl) ?_
  refine AList.nil ?_
  refine AWp.seq ?_
  refine AWp.region ?_
  refine AList.c 4 rfl rfl rfl (OpJ.assign rfl rfl) ?_
  refine AList.c 5 rfl rfl rfl (OpJ.assign rfl rfl) ?_
  refine AList.nil ?_
  refine AWp.seq ?_
  refine AWp.seq ?_
  refine AWp.region ?_
  refine AList.c 6 rfl rfl rfl (OpJ.assign rfl rfl) ?_
  refine AList.nil ?_
  refine AWp.block ?_
  refine AWp.loopHL [0] (fun (g : Nat × Nat) => [(6, .p (.int .i64 ((g.1 : Nat) : Int))), (4, .p (.int .i64 ((g.2 : Nat) : Int))), (5, .p (.int .i64 ((128 ^ g.1 : Nat) : Int)))]) (fun (g : Nat × Nat) => []) (fun (g : Nat × Nat) => g.1 ≤ s.length ∧ g.1 ≤ 4 ∧ g.2 < 128 ^ g.1 ∧ lfP s = lfG (4 - g.1) (128 ^ g.1) g.2 g.1 (s.drop g.1)) (fun (g : Nat × Nat) => 4 - g.1) (0, 0) ⟨Nat.zero_le _, Nat.zero_le _, Nat.one_pos, rfl⟩ (To.sub (Sub.chk (Sub.cons rfl (Sub.cons rfl (Sub.cons rfl (Sub.nil)))))) (fun g hg => ?_)
  obtain ⟨i, n⟩ := g
  obtain ⟨hi, h4, hn, hI⟩ := hg
  dsimp only at hi h4 hn hI ⊢
  have hp4 := p128 h4
  refine AWp.seq ?_
  refine AWp.seq ?_
  refine AWp.region ?_
  refine AList.c 7 rfl rfl rfl (OpJ.move rfl rfl) ?_
  refine AList.c 8 rfl rfl rfl (OpJ.move rfl rfl) ?_
  refine AList.c 9 rfl rfl rfl (OpJ.lenStr rfl rfl un9) ?_
  refine AList.c 10 rfl rfl rfl (OpJ.lss rfl rfl rfl) ?_
  refine AList.c 11 rfl rfl rfl (OpJ.move rfl rfl) ?_
  refine AList.g 12 11 rfl rfl rfl rfl rfl rfl rfl [(6, _)] (fun h => And.intro (.inl rfl) (trivial)) (fun h => (OpJ.move rfl rfl)) ?_
  refine AList.g 13 11 rfl rfl rfl rfl rfl rfl rfl [(12, _)] (fun h => And.intro (.inr ⟨_, rfl, h⟩) (trivial)) (fun h => (OpJ.lss rfl rfl rfl)) ?_
  refine AList.c 14 rfl rfl rfl (OpJ.and_ rfl rfl rfl ?_) ?_
  · first | (intro h; rw [h]; rfl) | (intro h; simp_all)
  refine AList.nil ?_
  refine AWp.cond _ rfl (fun hc0 => ?_) (fun hc0 => ?_)
  · skip
    obtain ⟨hk, hk4⟩ := (lf_c (i := i) (s := s) hc0).1 rfl
    have hd : ((gt 0 s i).toNat % 128) < 128 := Nat.mod_lt _ (by decide)
    have hb := (gt 0 s i).toNat_lt
    have hnn := lf_nlt hn hd
    have hp5 := p128 (i := i + 1) hk4
    refine AWp.skip ?_
    refine AWp.seq ?_
    refine AWp.block ?_
    refine AWp.seq ?_
    refine AWp.region ?_
    refine AList.c 17 rfl rfl rfl (OpJ.move rfl rfl) ?_
    refine AList.c 18 rfl rfl rfl (OpJ.move rfl rfl) ?_
    refine AList.c 19 rfl rfl rfl (OpJ.move rfl rfl) ?_
    refine AList.c 20 rfl rfl rfl (OpJ.move rfl rfl) ?_
    refine AList.c 21 rfl rfl rfl (OpJ.strIx s i (gt 0 s i) rfl rfl rfl st9 (by rw [List.getElem?_eq_getElem hk, gt_get 0 i hk])) ?_
    refine AList.c 22 rfl rfl rfl (OpJ.convInt rfl rfl (by rw [un5]; rfl) un3 (i64ok ?_)) ?_
    · omega
    refine AList.c 23 rfl rfl rfl (OpJ.rem (m := ((((gt 0 s i).toNat % 128) : Nat) : Int)) rfl rfl rfl ?_ ?_) ?_
    · decide
    · rfl
    refine AList.c 24 rfl rfl rfl (OpJ.mul (m := ((128 ^ i * ((gt 0 s i).toNat % 128) : Nat) : Int)) rfl rfl rfl ((i64ok ?_).trans ?_)) ?_
    · have h0 := Nat.mul_le_mul hp4.2 (show ((gt 0 s i).toNat % 128) ≤ 127 by omega); rw [← Int.natCast_mul]; omega
    · exact (Int.natCast_mul _ _).symm
    refine AList.c 25 rfl rfl rfl (OpJ.add (m := ((n + 128 ^ i * ((gt 0 s i).toNat % 128) : Nat) : Int)) rfl rfl rfl ((i64ok ?_).trans ?_)) ?_
    · omega
    · omega
    refine AList.c 4 rfl rfl rfl (OpJ.assign rfl rfl) ?_
    refine AList.nil ?_
    refine AWp.seq ?_
    refine AWp.region ?_
    refine AList.c 26 rfl rfl rfl (OpJ.move rfl rfl) ?_
    refine AList.c 27 rfl rfl rfl (OpJ.mul (m := ((128 ^ (i + 1) : Nat) : Int)) rfl rfl rfl ((i64ok ?_).trans ?_)) ?_
    · omega
    · rw [Nat.pow_succ]; omega
    refine AList.c 5 rfl rfl rfl (OpJ.assign rfl rfl) ?_
    refine AList.nil ?_
    refine AWp.seq ?_
    refine AWp.region ?_
    refine AList.c 28 rfl rfl rfl (OpJ.move rfl rfl) ?_
    refine AList.c 29 rfl rfl rfl (OpJ.move rfl rfl) ?_
    refine AList.c 30 rfl rfl rfl (OpJ.strIx s i (gt 0 s i) rfl rfl rfl st9 (by rw [List.getElem?_eq_getElem hk, gt_get 0 i hk])) ?_
    refine AList.c 31 rfl rfl rfl (OpJ.lss rfl rfl rfl) ?_
    refine AList.nil ?_
    refine AWp.cond _ rfl (fun hc1 => ?_) (fun hc1 => ?_)
    · skip
      have hyes := (lf_step hk hk4 hI).2 (by have h := of_decide_eq_true hc1; omega)
      refine AWp.seq ?_
      refine AWp.region ?_
      refine AList.c 32 rfl rfl rfl (OpJ.move rfl rfl) ?_
      refine AList.c 33 rfl rfl rfl (OpJ.move rfl rfl) ?_
      refine AList.c 34 rfl rfl rfl (OpJ.add (m := ((i + 1 : Nat) : Int)) rfl rfl rfl ((i64ok ?_).trans ?_)) ?_
      · omega
      · omega
      refine AList.c 2 rfl rfl rfl (OpJ.assign rfl rfl) ?_
      refine AList.c 3 rfl rfl rfl (OpJ.assign rfl rfl) ?_
      refine AList.nil ?_
      refine AWp.ret ?_
      refine Fin.manyE (xs := [.int .i64 ((n + 128 ^ i * ((gt 0 s i).toNat % 128) : Nat) : Int), .int .i64 ((i + 1 : Nat) : Int)]) rfl ⟨_, _, rfl, rfl, ⟨_, _, rfl, rfl, rfl⟩⟩ rfl ?_
      rw [hyes]
    · skip
      refine AWp.skip ?_
      refine AWp.region ?_
      refine AList.c 15 rfl rfl rfl (OpJ.move rfl rfl) ?_
      refine AList.c 16 rfl rfl rfl (OpJ.add (m := ((i + 1 : Nat) : Int)) rfl rfl rfl ((i64ok ?_).trans ?_)) ?_
      · omega
      · omega
      refine AList.c 6 rfl rfl rfl (OpJ.assign rfl rfl) ?_
      refine AList.nil ?_
      refine ⟨(i + 1, n + 128 ^ i * ((gt 0 s i).toNat % 128)), ?_, ?_, ?_⟩
      · exact ⟨hk, hk4, lf_nlt hn hd, (lf_step hk hk4 hI).1 (by have h := of_decide_eq_false hc1; omega)⟩
      · show 4 - (i + 1) < 4 - i
        omega
      exact To.done [] rfl (by repeat (first | exact Sub.nil | refine Sub.cons rfl ?_)) rfl
  · skip
    have hno := lf_stop (fun e => by have := (lf_c (i := i) (s := s) hc0).2 e; cases this) hi h4 hI
    refine AWp.exit ?_
    refine AWp.seq ?_
    refine AWp.region ?_
    refine AList.c 2 rfl rfl rfl (OpJ.assign rfl rfl) ?_
    refine AList.c 3 rfl rfl rfl (OpJ.assign rfl rfl) ?_
    refine AList.nil ?_
    refine AWp.ret ?_
    refine Fin.manyE (xs := [.int .i64 0, .int .i64 0]) rfl ⟨_, _, rfl, rfl, ⟨_, _, rfl, rfl, rfl⟩⟩ rfl ?_
    rw [hno]
    rfl
theorem rreadC_ok (s : Bs) : Pure Tryz.prog 16 [.str (sB s)] (.tuple [(rdC s).1, .int .i64 (rdC s).2]) := by
  refine Pure.start (N := 118) Tryz.func16 rfl rfl (Nat.le_of_ble_eq_true rfl) ?_
  refine AWp.seq ?_
  refine AWp.region ?_
  refine AList.c 2 rfl rfl rfl (OpJ.assign rfl rfl) ?_
  refine AList.c 3 rfl rfl rfl (OpJ.assign rfl rfl) ?_
  refine AList.nil ?_
  refine AWp.seq ?_
  refine AWp.seq ?_
  refine AWp.region ?_
  refine AList.c 13 rfl rfl rfl (OpJ.move rfl rfl) ?_
  refine AList.c 14 rfl rfl rfl (OpJ.lenStr rfl rfl un9) ?_
  refine AList.c 15 rfl rfl rfl (OpJ.gtr rfl rfl rfl) ?_
  refine AList.nil ?_
  refine AWp.cond _ rfl (fun hc0 => ?_) (fun hc0 => ?_)
  · skip
    have hbig : 65536 < s.length := by have h := of_decide_eq_true hc0; rw [sB_size] at h; omega
    refine AWp.seq ?_
    refine AWp.region ?_
    refine AList.c 2 rfl rfl rfl (OpJ.assign rfl rfl) ?_
    refine AList.c 3 rfl rfl rfl (OpJ.assign rfl rfl) ?_
    refine AList.nil ?_
    refine AWp.ret ?_
    refine Fin.manyE (xs := [.nilSlice, .int .i64 3]) rfl ⟨_, _, rfl, rfl, ⟨_, _, rfl, rfl, rfl⟩⟩ rfl ?_
    rw [rdC_big hbig]
  · skip
    have hs : s.length ≤ 65536 := by have h := of_decide_eq_false hc0; rw [sB_size] at h; omega
    refine AWp.skip ?_
    refine AWp.seq ?_
    refine AWp.seq ?_
    refine AWp.region ?_
    refine AList.c 16 rfl rfl rfl (OpJ.move rfl rfl) ?_
    refine AList.c 17 rfl rfl rfl (OpJ.lenStr rfl rfl un9) ?_
    refine AList.c 18 rfl rfl rfl (OpJ.lss rfl rfl rfl) ?_
    refine AList.nil ?_
    refine AWp.cond _ rfl (fun hc1 => ?_) (fun hc1 => ?_)
    · skip
      have h5 : s.length < 5 := by have h := of_decide_eq_true hc1; rw [sB_size] at h; omega
      refine AWp.seq ?_
      refine AWp.region ?_
      refine AList.c 2 rfl rfl rfl (OpJ.assign rfl rfl) ?_
      refine AList.c 3 rfl rfl rfl (OpJ.assign rfl rfl) ?_
      refine AList.nil ?_
      refine AWp.ret ?_
      refine Fin.manyE (xs := [.nilSlice, .int .i64 8]) rfl ⟨_, _, rfl, rfl, ⟨_, _, rfl, rfl, rfl⟩⟩ rfl ?_
      rw [rdC_ref hs, refC_5 h5]
    · skip
      have h5 : 5 ≤ s.length := by have h := of_decide_eq_false hc1; rw [sB_size] at h; omega
      have hb3 := (gt 0 s 3).toNat_lt
      refine AWp.skip ?_
      refine AWp.seq ?_
      refine AWp.region ?_
      refine AList.c 4 rfl rfl rfl (OpJ.assign rfl rfl) ?_
      refine AList.nil ?_
      refine AWp.seq ?_
      refine AWp.region ?_
      refine AList.c 5 rfl rfl rfl (OpJ.assign rfl rfl) ?_
      refine AList.c 6 rfl rfl rfl (OpJ.assign rfl rfl) ?_
      refine AList.nil ?_
      refine AWp.seq ?_
      refine AWp.seq ?_
      refine AWp.region ?_
      refine AList.c 7 rfl rfl rfl (OpJ.assign rfl rfl) ?_
      refine AList.nil ?_
      refine AWp.block ?_
      refine AWp.loopHL [0, 11, 12, 87, 88, 89, 90, 91, 92, 93, 94, 95, 96, 97, 98, 99, 100, 101, 102, 103, 104, 105, 106, 107, 108, 109, 110, 111, 112, 113, 114, 115, 116, 117] (fun (g : List Crd × Nat × Int) => [(7, .p (.int .i64 ((g.1.length : Nat) : Int))), (4, accV 0 g.1.length), (5, .p (.int .i64 ((g.2.1 : Nat) : Int))), (6, .p (.int .i64 g.2.2))]) (fun (g : List Crd × Nat × Int) => [accB ((g.1.flatMap Crd.cells).map .p) 75 g.1.length]) (fun (g : List Crd × Nat × Int) => g.1.length ≤ (gt 0 s 3).toNat ∧ g.2.1 ≤ s.length ∧ -1 ≤ g.2.2 ∧ g.2.2 ≤ 268435457 * (g.1.length : Int) ∧ rcG s (gt 0 s 3).toNat 4 (-1) = (rcG s ((gt 0 s 3).toNat - g.1.length) g.2.1 g.2.2).map fun l => g.1 ++ l) (fun (g : List Crd × Nat × Int) => (gt 0 s 3).toNat - g.1.length) ([], 4, -1) ⟨Nat.zero_le _, by show 4 ≤ s.length; omega, by decide, by decide, rc_0⟩ (To.pad.trans (To.sub (Sub.chk (Sub.cons rfl (Sub.cons rfl (Sub.cons rfl (Sub.cons rfl Sub.nil))))))) (fun g hg => ?_)
      obtain ⟨acc, a, last⟩ := g
      obtain ⟨hn, ha, hl0, hl1, hI⟩ := hg
      dsimp only at hn ha hl0 hl1 hI ⊢
      refine AWp.seq ?_
      refine AWp.seq ?_
      refine AWp.region ?_
      refine AList.c 19 rfl rfl rfl (OpJ.move rfl rfl) ?_
      refine AList.c 20 rfl rfl rfl (OpJ.move rfl rfl) ?_
      refine AList.c 21 rfl rfl rfl (OpJ.strIx s 3 (gt 0 s 3) rfl rfl rfl st9 (by rw [List.getElem?_eq_getElem (by omega), gt_get 0 3 (by omega)])) ?_
      refine AList.c 22 rfl rfl rfl (OpJ.convInt rfl rfl (by rw [un5]; rfl) un3 (i64ok ?_)) ?_
      · omega
      refine AList.c 23 rfl rfl rfl (OpJ.lss rfl rfl rfl) ?_
      refine AList.nil ?_
      refine AWp.cond _ rfl (fun hc2 => ?_) (fun hc2 => ?_)
      · skip
        have hk0 : acc.length < (gt 0 s 3).toNat := by have h := of_decide_eq_true hc2; omega
        obtain ⟨kk, hkk⟩ : ∃ kk, (gt 0 s 3).toNat - acc.length = kk + 1 := ⟨(gt 0 s 3).toNat - acc.length - 1, by omega⟩
        rw [hkk, rcG_s] at hI
        have hxl := lfP_lt (s.drop a)
        have hyl := lfP_lt (s.drop (rcA s a))
        have hzl := lfP_lt (s.drop (rcB s a + 2))
        have hAl := rcA_le ha
        have hBl := rcB_le ha
        refine AWp.skip ?_
        refine AWp.seq ?_
        refine AWp.block ?_
        refine AWp.seq ?_
        refine AWp.region ?_
        refine AList.c 8 rfl rfl rfl (OpJ.allocOwn rfl zr75 rfl) ?_
        refine AList.nil ?_
        refine AWp.seq ?_
        refine AWp.region ?_
        refine AList.c 27 rfl rfl rfl (OpJ.move rfl rfl) ?_
        refine AList.c 28 rfl rfl rfl (OpJ.move rfl rfl) ?_
        refine AList.c 29 rfl rfl rfl (OpJ.strCut s a s.length rfl rfl st9 ⟨_, rfl⟩ rfl ha (Nat.le_refl _)) ?_
        rw [cut_all]
        refine AList.c 30 rfl rfl rfl (OpJ.callP (longOf_ok (s.drop a)) rfl rfl rfl rfl rf55) ?_
        rw [show lfP (s.drop a) = rcX s a from rfl]
        refine AList.c 26 rfl rfl rfl (OpJ.move rfl rfl) ?_
        refine AList.c 31 rfl rfl rfl (OpJ.extract rfl rfl rfl) ?_
        refine AList.c 32 rfl rfl rfl (OpJ.extract rfl rfl rfl) ?_
        refine AList.c 9 rfl rfl rfl (OpJ.assign rfl rfl) ?_
        refine AList.c 10 rfl rfl rfl (OpJ.assign rfl rfl) ?_
        refine AList.nil ?_
        refine AWp.seq ?_
        refine AWp.region ?_
        refine AList.c 33 rfl rfl rfl (OpJ.move rfl rfl) ?_
        refine AList.c 34 rfl rfl rfl (OpJ.move rfl rfl) ?_
        refine AList.c 35 rfl rfl rfl (OpJ.add (m := ((rcA s a : Nat) : Int)) rfl rfl rfl ((i64ok ?_).trans ?_)) ?_
        · show _ ≤ ((a : Nat) : Int) + (((rcX s a).2 : Nat) : Int) ∧ _; unfold rcA at hAl; omega
        · unfold rcA; omega
        refine AList.c 5 rfl rfl rfl (OpJ.assign rfl rfl) ?_
        refine AList.nil ?_
        refine AWp.seq ?_
        refine AWp.region ?_
        refine AList.c 36 rfl rfl rfl (OpJ.move rfl rfl) ?_
        refine AList.c 37 rfl rfl rfl (OpJ.add rfl rfl rfl (i64ok ?_)) ?_
        · omega
        refine AList.c 38 rfl rfl rfl (OpJ.move rfl rfl) ?_
        refine AList.c 39 rfl rfl rfl (OpJ.add (m := (last + 1 + ((rcX s a).1 : Int))) rfl rfl rfl ((i64ok ?_).trans ?_)) ?_
        · have hxl2 : (rcX s a).1 < 268435456 := hxl; omega
        · rfl
        refine AList.c 40 rfl rfl rfl (OpJ.fieldAddr rfl rfl fd75_0 rfl) ?_
        refine AList.c0 rfl rfl (OpJ.store (H' := [accB ((acc.flatMap Crd.cells).map .p) 75 acc.length, .cells [.p (.int .i64 (last + 1 + ((rcX s a).1 : Int))), .p (.int .i64 0), .p (.int .i64 0), .p (.int .i64 0), .p (.int .i64 0)] 75]) rfl rfl rfl rfl rfl ty3 rfl rfl) ?_
        refine AList.nil ?_
        refine AWp.seq ?_
        refine AWp.region ?_
        refine AList.c 41 rfl rfl rfl (OpJ.fieldAddr rfl rfl fd75_0 rfl) ?_
        refine AList.c 42 rfl rfl rfl (OpJ.load (v := .p (.int .i64 (last + 1 + ((rcX s a).1 : Int)))) rfl rfl ty3 rfl) ?_
        refine AList.c 6 rfl rfl rfl (OpJ.assign rfl rfl) ?_
        refine AList.nil ?_
        refine AWp.seq ?_
        refine AWp.region ?_
        refine AList.c 44 rfl rfl rfl (OpJ.move rfl rfl) ?_
        refine AList.c 45 rfl rfl rfl (OpJ.move rfl rfl) ?_
        refine AList.c 46 rfl rfl rfl (OpJ.strCut s (rcA s a) s.length rfl rfl st9 ⟨_, rfl⟩ rfl hAl (Nat.le_refl _)) ?_
        rw [cut_all]
        refine AList.c 47 rfl rfl rfl (OpJ.callP (longOf_ok (s.drop (rcA s a))) rfl rfl rfl rfl rf55) ?_
        rw [show lfP (s.drop (rcA s a)) = rcY s a from rfl]
        refine AList.c 43 rfl rfl rfl (OpJ.move rfl rfl) ?_
        refine AList.c 48 rfl rfl rfl (OpJ.extract rfl rfl rfl) ?_
        refine AList.c 49 rfl rfl rfl (OpJ.extract rfl rfl rfl) ?_
        refine AList.c 50 rfl rfl rfl (OpJ.fieldAddr rfl rfl fd75_1 rfl) ?_
        refine AList.c0 rfl rfl (OpJ.store (H' := [accB ((acc.flatMap Crd.cells).map .p) 75 acc.length, .cells [.p (.int .i64 (last + 1 + ((rcX s a).1 : Int))), .p (.int .i64 ((rcY s a).1 : Int)), .p (.int .i64 0), .p (.int .i64 0), .p (.int .i64 0)] 75]) rfl rfl rfl rfl rfl ty3 rfl rfl) ?_
        refine AList.c 10 rfl rfl rfl (OpJ.assign rfl rfl) ?_
        refine AList.nil ?_
        refine AWp.seq ?_
        refine AWp.region ?_
        refine AList.c 51 rfl rfl rfl (OpJ.move rfl rfl) ?_
        refine AList.c 52 rfl rfl rfl (OpJ.move rfl rfl) ?_
        refine AList.c 53 rfl rfl rfl (OpJ.add (m := ((rcB s a : Nat) : Int)) rfl rfl rfl ((i64ok ?_).trans ?_)) ?_
        · unfold rcB at hBl; omega
        · unfold rcB; omega
        refine AList.c 5 rfl rfl rfl (OpJ.assign rfl rfl) ?_
        refine AList.nil ?_
        refine AWp.seq ?_
        refine AWp.seq ?_
        refine AWp.region ?_
        refine AList.c 54 rfl rfl rfl (OpJ.move rfl rfl) ?_
        refine AList.c 55 rfl rfl rfl (OpJ.add (m := ((rcB s a + 2 : Nat) : Int)) rfl rfl rfl ((i64ok ?_).trans ?_)) ?_
        · omega
        · omega
        refine AList.c 56 rfl rfl rfl (OpJ.move rfl rfl) ?_
        refine AList.c 57 rfl rfl rfl (OpJ.lenStr rfl rfl un9) ?_
        refine AList.c 58 rfl rfl rfl (OpJ.gtr rfl rfl rfl) ?_
        refine AList.nil ?_
        refine AWp.cond _ rfl (fun hc3 => ?_) (fun hc3 => ?_)
        · skip
          have hno : rcG s (gt 0 s 3).toNat 4 (-1) = none := by rw [hI, if_pos (by have h := of_decide_eq_true hc3; rw [sB_size] at h; omega)]; rfl
          refine AWp.seq ?_
          refine AWp.region ?_
          refine AList.c 2 rfl rfl rfl (OpJ.assign rfl rfl) ?_
          refine AList.c 3 rfl rfl rfl (OpJ.assign rfl rfl) ?_
          refine AList.nil ?_
          refine AWp.ret ?_
          refine Fin.manyE (xs := [.nilSlice, .int .i64 8]) rfl ⟨_, _, rfl, rfl, ⟨_, _, rfl, rfl, rfl⟩⟩ rfl ?_
          rw [rdC_ref hs, refC_n h5 hno]
        · skip
          have hB2 : rcB s a + 2 ≤ s.length := by have h := of_decide_eq_false hc3; rw [sB_size] at h; omega
          rw [if_neg (by omega)] at hI
          have hEl := rcE_le hB2
          have b1 := (gt 0 s (rcB s a)).toNat_lt
          have b2 := (gt 0 s (rcB s a + 1)).toNat_lt
          refine AWp.skip ?_
          refine AWp.seq ?_
          refine AWp.regionDrawG 11 0 [1] [([], false), ([], false), ([], false), ([], false), ([], false), ([], false), ([], false), ([], false), ([], false), ([], false), ([1], true)] mixed (by kernel_rfl) (by decide) (by kernel_rfl) rfl (by show [renB (sg 2 []) (accB ((_ : List PV).map .p) _ _), _] = _; rw [accB_ren]; rfl) ?_
          refine AQG.cons 59 rfl rfl rfl (fun _ => (OpJ.move rfl rfl)) rfl ?_
          refine AQG.cons 60 rfl rfl rfl (fun _ => (OpJ.move rfl rfl)) rfl ?_
          refine AQG.cons 61 rfl rfl rfl (fun _ => (OpJ.strIx s (rcB s a) (gt 0 s (rcB s a)) rfl rfl rfl st9 (by rw [List.getElem?_eq_getElem (by omega), gt_get 0 (rcB s a) (by omega)]))) rfl ?_
          refine AQG.cons 62 rfl rfl rfl (fun _ => (OpJ.convInt rfl rfl (by rw [un5]; rfl) un3 (i64ok ?_))) rfl ?_
          · omega
          refine AQG.cons 63 rfl rfl rfl (fun _ => (OpJ.move rfl rfl)) rfl ?_
          refine AQG.cons 64 rfl rfl rfl (fun _ => (OpJ.move rfl rfl)) rfl ?_
          refine AQG.cons 65 rfl rfl rfl (fun _ => (OpJ.add (m := ((rcB s a + 1 : Nat) : Int)) rfl rfl rfl ((i64ok ?_).trans ?_))) rfl ?_
          · omega
          · omega
          refine AQG.cons 66 rfl rfl rfl (fun _ => (OpJ.strIx s (rcB s a + 1) (gt 0 s (rcB s a + 1)) rfl rfl rfl st9 (by rw [List.getElem?_eq_getElem (by omega), gt_get 0 (rcB s a + 1) (by omega)]))) rfl ?_
          refine AQG.cons 67 rfl rfl rfl (fun _ => (OpJ.convInt rfl rfl (by rw [un5]; rfl) un3 (i64ok ?_))) rfl ?_
          · omega
          refine AQG.cons 68 rfl rfl rfl (fun _ => (OpJ.fieldAddr rfl rfl fd75_2 rfl)) rfl ?_
          refine AQG.put 1 rfl rfl rfl rfl (fun _ => (OpJ.store rfl rfl rfl rfl rfl ty3 rfl rfl)) rfl rfl ?_
          refine AQG.nil ?_
          refine AList.c 69 rfl rfl rfl (OpJ.fieldAddr rfl rfl fd75_3 rfl) ?_
          refine AList.c0 rfl rfl (OpJ.store rfl rfl rfl rfl rfl ty3 rfl rfl) ?_
          refine AList.nil ?_
          refine AWp.seq ?_
          refine AWp.region ?_
          refine AList.c 70 rfl rfl rfl (OpJ.move rfl rfl) ?_
          refine AList.c 71 rfl rfl rfl (OpJ.add (m := ((rcB s a + 2 : Nat) : Int)) rfl rfl rfl ((i64ok ?_).trans ?_)) ?_
          · omega
          · omega
          refine AList.c 5 rfl rfl rfl (OpJ.assign rfl rfl) ?_
          refine AList.nil ?_
          refine AWp.seq ?_
          refine AWp.region ?_
          refine AList.c 73 rfl rfl rfl (OpJ.move rfl rfl) ?_
          refine AList.c 74 rfl rfl rfl (OpJ.move rfl rfl) ?_
          refine AList.c 75 rfl rfl rfl (OpJ.strCut s (rcB s a + 2) s.length rfl rfl st9 ⟨_, rfl⟩ rfl hB2 (Nat.le_refl _)) ?_
          rw [cut_all]
          refine AList.c 76 rfl rfl rfl (OpJ.callP (longOf_ok (s.drop (rcB s a + 2))) rfl rfl rfl rfl rf55) ?_
          rw [show lfP (s.drop (rcB s a + 2)) = rcZ s a from rfl]
          refine AList.c 72 rfl rfl rfl (OpJ.move rfl rfl) ?_
          refine AList.c 77 rfl rfl rfl (OpJ.extract rfl rfl rfl) ?_
          refine AList.c 78 rfl rfl rfl (OpJ.extract rfl rfl rfl) ?_
          refine AList.c 79 rfl rfl rfl (OpJ.fieldAddr rfl rfl fd75_4 rfl) ?_
          refine AList.c0 rfl rfl (OpJ.store (H' := [accB ((acc.flatMap Crd.cells).map .p) 75 acc.length, .cells [.p (.int .i64 (last + 1 + ((rcX s a).1 : Int))), .p (.int .i64 ((rcY s a).1 : Int)), .p (.int .i64 ((gt 0 s (rcB s a)).toNat : Int)), .p (.int .i64 ((gt 0 s (rcB s a + 1)).toNat : Int)), .p (.int .i64 ((rcZ s a).1 : Int))] 75]) rfl rfl rfl rfl rfl ty3 rfl rfl) ?_
          refine AList.c 10 rfl rfl rfl (OpJ.assign rfl rfl) ?_
          refine AList.nil ?_
          refine AWp.seq ?_
          refine AWp.region ?_
          refine AList.c 80 rfl rfl rfl (OpJ.move rfl rfl) ?_
          refine AList.c 81 rfl rfl rfl (OpJ.move rfl rfl) ?_
          refine AList.c 82 rfl rfl rfl (OpJ.add (m := ((rcE s a : Nat) : Int)) rfl rfl rfl ((i64ok ?_).trans ?_)) ?_
          · unfold rcE at hEl; omega
          · unfold rcE; omega
          refine AList.c 5 rfl rfl rfl (OpJ.assign rfl rfl) ?_
          refine AList.nil ?_
          refine AWp.region ?_
          refine AList.c 83 rfl rfl rfl (OpJ.move rfl rfl) ?_
          refine AList.c 84 rfl rfl rfl (OpJ.load (v := .p (.agg (rcC s a last).cells)) rfl rfl ty75 rfl) ?_
          refine AList.c 85 rfl rfl rfl (OpJ.buildImm rfl slz23 (by decide) rfl rfl rfl) ?_
          refine AList.c 86 rfl rfl rfl (OpJ.appendAcc rfl rfl rfl slz23 sl23 rfl ?_ rfl (by decide) rfl by75 (by decide) ?_) ?_
          · rw [List.length_map, AF.flat_len (c := 5) (fun _ => rfl)]; rfl
          · show (2 * (acc.length + 1) + 192) * 40 ≤ 281474976710656; omega
          refine AList.c 4 rfl rfl rfl (OpJ.assign rfl rfl) ?_
          refine AList.nil ?_
          refine AWp.region ?_
          refine AList.c 24 rfl rfl rfl (OpJ.move rfl rfl) ?_
          refine AList.c 25 rfl rfl rfl (OpJ.add (m := ((acc.length + 1 : Nat) : Int)) rfl rfl rfl ((i64ok ?_).trans ?_)) ?_
          · omega
          · omega
          refine AList.c 7 rfl rfl rfl (OpJ.assign rfl rfl) ?_
          refine AList.nil ?_
          refine ⟨(acc ++ [(rcC s a last)], rcE s a, (last + 1 + ((rcX s a).1 : Int))), ?_, ?_, ?_⟩
          · have hxl2 : (rcX s a).1 < 268435456 := hxl
            exact ⟨by rw [List.length_append]; exact hk0, hEl, by show -1 ≤ (last + 1 + ((rcX s a).1 : Int)); omega, by rw [List.length_append]; show (last + 1 + ((rcX s a).1 : Int)) ≤ 268435457 * ((acc.length + 1 : Nat) : Int); omega, rc_st hkk hI⟩
          · show (gt 0 s 3).toNat - (acc ++ [_]).length < (gt 0 s 3).toNat - acc.length
            rw [List.length_append]
            show (gt 0 s 3).toNat - (acc.length + 1) < _
            omega
          have eLn : (acc ++ [(rcC s a last)]).length = acc.length + 1 := by rw [List.length_append]; rfl
          have eL : (acc ++ [(rcC s a last)]).flatMap Crd.cells = acc.flatMap Crd.cells ++ (rcC s a last).cells := by rw [List.flatMap_append]; simp
          dsimp only
          rw [eLn, eL]
          refine To.done [2] rfl (by repeat (first | exact Sub.nil | refine Sub.cons rfl ?_)) ?_
          show [Blk.row (renL _ (_ ++ _)) _] = [Blk.row _ _]
          rw [renL_app, renL_pure, List.map_append]
          rfl
      · skip
        have hk0 : acc.length = (gt 0 s 3).toNat := by have h := of_decide_eq_false hc2; omega
        have hout : rcG s (gt 0 s 3).toNat 4 (-1) = some acc := by rw [hI, hk0, Nat.sub_self, rcG]; simp
        refine AWp.to (To.accD 4 0 acc.length (xs := acc.flatMap Crd.cells) rfl rfl (fun h => by rw [List.length_eq_zero_iff.1 h]; rfl)) ?_
        refine AWp.exit ?_
        refine AWp.seq ?_
        refine AWp.region ?_
        refine AList.c 88 rfl rfl rfl (OpJ.move rfl rfl) ?_
        refine AList.c 89 rfl rfl rfl (OpJ.callP (rwriteC_ok acc (by unfold bigN; omega)) rfl rfl rfl rfl rf10) ?_
        refine AList.c 87 rfl rfl rfl (OpJ.move rfl rfl) ?_
        refine AList.c 90 rfl rfl rfl (OpJ.extract rfl rfl rfl) ?_
        refine AList.c 91 rfl rfl rfl (OpJ.extract rfl rfl rfl) ?_
        refine AList.c 11 rfl rfl rfl (OpJ.assign rfl rfl) ?_
        refine AList.c 12 rfl rfl rfl (OpJ.assign rfl rfl) ?_
        refine AList.nil ?_
        refine AWp.seq ?_
        refine AWp.seq ?_
        refine AWp.regionDraw 22 mixed (by kernel_rfl) (by decide) ?_
        refine AQuiet.cons 92 rfl rfl rfl (OpJ.move rfl rfl) ?_
        refine AQuiet.cons 93 rfl rfl rfl (OpJ.neq rfl rfl rfl) ?_
        refine AQuiet.cons 94 rfl rfl rfl (OpJ.move rfl rfl) ?_
        refine AQuiet.guard 95 94 rfl rfl rfl rfl rfl rfl rfl [(11, _)] (fun h => And.intro (.inl rfl) (trivial)) (fun h => (OpJ.move rfl rfl)) ?_
        refine AQuiet.guard 96 94 rfl rfl rfl rfl rfl rfl rfl [(95, _)] (fun h => And.intro (.inr ⟨_, rfl, h⟩) (trivial)) (fun h => (OpJ.lenStr rfl rfl un9)) ?_
        refine AQuiet.guard 97 94 rfl rfl rfl rfl rfl rfl rfl [(0, _)] (fun h => And.intro (.inl rfl) (trivial)) (fun h => (OpJ.move rfl rfl)) ?_
        refine AQuiet.guard 98 94 rfl rfl rfl rfl rfl rfl rfl [(97, _)] (fun h => And.intro (.inr ⟨_, rfl, h⟩) (trivial)) (fun h => (OpJ.lenStr rfl rfl un9)) ?_
        refine AQuiet.guard 99 94 rfl rfl rfl rfl rfl rfl rfl [(96, _), (98, _)] (fun h => And.intro (.inr ⟨_, rfl, h⟩) (And.intro (.inr ⟨_, rfl, h⟩) (trivial))) (fun h => (OpJ.neq rfl rfl rfl)) ?_
        refine AQuiet.cons 100 rfl rfl rfl (OpJ.or_ rfl rfl rfl ?_) ?_
        · first | (intro h; rw [h]; rfl) | (intro h; simp_all)
        refine AQuiet.cons 101 rfl rfl rfl (OpJ.move rfl rfl) ?_
        refine AQuiet.guard 102 101 rfl rfl rfl rfl rfl rfl rfl [(11, _)] (fun h => And.intro (.inl rfl) (trivial)) (fun h => (OpJ.move rfl rfl)) ?_
        refine AQuiet.guard 103 101 rfl rfl rfl rfl rfl rfl rfl [(11, _)] (fun h => And.intro (.inl rfl) (trivial)) (fun h => (OpJ.move rfl rfl)) ?_
        refine AQuiet.guard 104 101 rfl rfl rfl rfl rfl rfl rfl [(103, _)] (fun h => And.intro (.inr ⟨_, rfl, h⟩) (trivial)) (fun h => (OpJ.lenStr rfl rfl un9)) ?_
        refine AQuiet.guard 105 101 rfl rfl rfl rfl rfl rfl rfl [(104, _)] (fun h => And.intro (.inr ⟨_, rfl, h⟩) (trivial)) (fun h => (OpJ.sub_ (m := (((wrC acc).1.length - 1 : Nat) : Int)) rfl rfl rfl ((i64ok (by have h2 := rc_g h; rw [sB_size]; omega)).trans (by have h2 := rc_g h; rw [sB_size]; omega)))) ?_
        refine AQuiet.guard 106 101 rfl rfl rfl rfl rfl rfl rfl [(102, _), (105, _)] (fun h => And.intro (.inr ⟨_, rfl, h⟩) (And.intro (.inr ⟨_, rfl, h⟩) (trivial))) (fun h => (OpJ.strCut (wrC acc).1 0 ((wrC acc).1.length - 1) rfl rfl st9 rfl ⟨_, rfl⟩ (Nat.zero_le _) (Nat.sub_le _ _))) ?_
        refine AQuiet.guard 107 101 rfl rfl rfl rfl rfl rfl rfl [(0, _)] (fun h => And.intro (.inl rfl) (trivial)) (fun h => (OpJ.move rfl rfl)) ?_
        refine AQuiet.guard 108 101 rfl rfl rfl rfl rfl rfl rfl [(0, _)] (fun h => And.intro (.inl rfl) (trivial)) (fun h => (OpJ.move rfl rfl)) ?_
        refine AQuiet.guard 109 101 rfl rfl rfl rfl rfl rfl rfl [(108, _)] (fun h => And.intro (.inr ⟨_, rfl, h⟩) (trivial)) (fun h => (OpJ.lenStr rfl rfl un9)) ?_
        refine AQuiet.guard 110 101 rfl rfl rfl rfl rfl rfl rfl [(109, _)] (fun h => And.intro (.inr ⟨_, rfl, h⟩) (trivial)) (fun h => (OpJ.sub_ (m := ((s.length - 1 : Nat) : Int)) rfl rfl rfl ((i64ok (by rw [sB_size]; omega)).trans (by rw [sB_size]; omega)))) ?_
        refine AQuiet.guard 111 101 rfl rfl rfl rfl rfl rfl rfl [(107, _), (110, _)] (fun h => And.intro (.inr ⟨_, rfl, h⟩) (And.intro (.inr ⟨_, rfl, h⟩) (trivial))) (fun h => (OpJ.strCut s 0 (s.length - 1) rfl rfl st9 rfl ⟨_, rfl⟩ (Nat.zero_le _) (by omega))) ?_
        refine AQuiet.guard 112 101 rfl rfl rfl rfl rfl rfl rfl [(106, _), (111, _)] (fun h => And.intro (.inr ⟨_, rfl, h⟩) (And.intro (.inr ⟨_, rfl, h⟩) (trivial))) (fun h => (OpJ.strNe (((wrC acc).1.drop 0).take ((wrC acc).1.length - 1 - 0)) ((s.drop 0).take (s.length - 1 - 0)) rfl rfl rfl)) ?_
        refine AQuiet.cons 113 rfl rfl rfl (OpJ.or_ rfl rfl rfl ?_) ?_
        · first | (intro h; rw [h]; rfl) | (intro h; simp_all)
        refine AQuiet.nil ?_
        refine AList.nil ?_
        refine AWp.cond _ rfl (fun hc4 => ?_) (fun hc4 => ?_)
        · skip
          have hno : (wrC acc).2 ≠ 0 ∨ (wrC acc).1.length ≠ s.length ∨ (wrC acc).1.take ((wrC acc).1.length - 1) ≠ s.take (s.length - 1) := (rc_c hc4).1 rfl
          refine AWp.seq ?_
          refine AWp.region ?_
          refine AList.c 2 rfl rfl rfl (OpJ.assign rfl rfl) ?_
          refine AList.c 3 rfl rfl rfl (OpJ.assign rfl rfl) ?_
          refine AList.nil ?_
          refine AWp.ret ?_
          refine Fin.manyE (xs := [.nilSlice, .int .i64 8]) rfl ⟨_, _, rfl, rfl, ⟨_, _, rfl, rfl, rfl⟩⟩ rfl ?_
          rw [rdC_ref hs, refC_s h5 hout, if_pos hno]
        · skip
          have hyes : ¬ ((wrC acc).2 ≠ 0 ∨ (wrC acc).1.length ≠ s.length ∨ (wrC acc).1.take ((wrC acc).1.length - 1) ≠ s.take (s.length - 1)) := fun e => by have := (rc_c hc4).2 e; cases this
          refine AWp.skip ?_
          refine AWp.seq ?_
          refine AWp.seq ?_
          refine AWp.region ?_
          refine AList.c 114 rfl rfl rfl (OpJ.move rfl rfl) ?_
          refine AList.c 115 rfl rfl rfl (OpJ.move rfl rfl) ?_
          refine AList.c 116 rfl rfl rfl (OpJ.strNe (wrC acc).1 s rfl rfl rfl) ?_
          refine AList.nil ?_
          refine AWp.cond _ rfl (fun hc5 => ?_) (fun hc5 => ?_)
          · skip
            have hne : (wrC acc).1 ≠ s := by simpa using hc5
            refine AWp.seq ?_
            refine AWp.region ?_
            refine AList.c 2 rfl rfl rfl (OpJ.assign rfl rfl) ?_
            refine AList.c 3 rfl rfl rfl (OpJ.assign rfl rfl) ?_
            refine AList.nil ?_
            refine AWp.ret ?_
            refine Fin.manyE (xs := [.nilSlice, .int .i64 11]) rfl ⟨_, _, rfl, rfl, ⟨_, _, rfl, rfl, rfl⟩⟩ rfl ?_
            rw [rdC_ref hs, refC_s h5 hout, if_neg hyes, if_pos hne]
          · skip
            have heq : (wrC acc).1 = s := by simpa using hc5
            refine AWp.skip ?_
            refine AWp.seq ?_
            refine AWp.region ?_
            refine AList.c 117 rfl rfl rfl (OpJ.move rfl rfl) ?_
            refine AList.c 2 rfl rfl rfl (OpJ.assign rfl rfl) ?_
            refine AList.c 3 rfl rfl rfl (OpJ.assign rfl rfl) ?_
            refine AList.nil ?_
            refine AWp.ret ?_
            refine Fin.manyE (xs := [crdsV acc, .int .i64 0]) rfl ⟨_, _, rfl, rfl, ⟨_, _, rfl, rfl, rfl⟩⟩ rfl ?_
            rw [rdC_ref hs, refC_s h5 hout, if_neg hyes, if_neg (fun e => e heq)]
end Go.Proofs.YtcmkdegeljjalaaGreatDoor
end
