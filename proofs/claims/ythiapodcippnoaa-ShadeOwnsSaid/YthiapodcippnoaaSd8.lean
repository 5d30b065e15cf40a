/-
  Cut.
-/
import Derived.Test.YthiapodcippnoaaSd7
set_option linter.unusedVariables false
set_option maxRecDepth 100000
set_option maxHeartbeats 4000000
set_option linter.unusedSimpArgs false
namespace Go.Proofs.Ythiapodcippnoaa
open Go.AF
theorem after_all (b : List Bch) (s : Scl) (hb : BOk b) (hs : OkZ s) : ∀ j k : Nat, k + j = s.n.toNat → AfterOk b s k
  | 0, k, h => after_step b s hb hs k (by omega) (fun h2 => by omega)
  | j + 1, k, h => after_step b s hb hs k (by omega) (fun _ => after_all b s hb hs j (k + 1) (by omega))
theorem cut3_ok (b : List Bch) (s : Scl) (hb : BOk b) (hs : OkZ s) (f : Nat) (hf : f ≤ 200) (t : List Cho) (hM : MemoOk b s t) : ACalls Try.prog 60 [.p (.int .i64 (f : Int)), .ptr 1 0] (HH b s t) fun v H' => v = .p (.int .i64 (mostF b s s.n.toNat f)) ∧ ∃ t', H' = HH b s t' ∧ MemoOk b s t' ∧ LeT t t' ∧ (cho t' (ix 0 f)).known = true := by
  refine ACalls.start (N := 7) Try.func60 rfl rfl (Nat.le_of_ble_eq_true rfl) ?_
  have hsn := hs.n
  refine AWp.seq ?_
  refine AWp.region ?_
  refine AList.c 3 rfl rfl rfl (OpJ.assign rfl rfl) ?_
  refine AList.nil ?_
  refine AWp.seq ?_
  refine AWp.region ?_
  refine AList.c 4 rfl rfl rfl (OpJ.load rfl rfl ty109 rfl) ?_
  refine AList.c 5 rfl rfl rfl (OpJ.move rfl rfl) ?_
  refine AList.callX 6 (after_all b s hb hs s.n.toNat 0 (by omega) f hf t hM) rfl rfl rfl rfl rfl rfl rfl rf56 (fun v H2 hQ2 => ?_)
  obtain ⟨rfl, t1, rfl, hM1, hL1, hK1⟩ := hQ2
  refine AList.c 3 rfl rfl rfl (OpJ.assign rfl rfl) ?_
  refine AList.nil ?_
  refine AWp.ret ?_
  exact ⟨.inr rfl, _, resV.one rfl rfl, rfl, t1, rfl, hM1, hL1, hK1 (by omega)⟩
theorem cut_hof (b : List Bch) (s : Scl) (hb : BOk b) (hs : OkZ s) : ∀ (i : Nat) (H : List Blk), i < 201 → (fun i H => ∃ t1, H = HH b s t1 ∧ MemoOk b s t1 ∧ ∀ g : Nat, g < i → (cho t1 (ix 0 g)).known = true) i H →
    FX Try.prog (.func (.func 60) [] [.ptr 1 0]) [.p (.int .i64 ((0 : Int) + i))] H fun v H' => v = .p (.int .i64 (mostF b s s.n.toNat ((0 : Int) + i))) ∧ (fun i H => ∃ t1, H = HH b s t1 ∧ MemoOk b s t1 ∧ ∀ g : Nat, g < i → (cho t1 (ix 0 g)).known = true) (i + 1) H' := by
  intro i H hi ⟨t1, hH, hM1, hK1⟩
  subst hH
  rw [Int.zero_add]
  refine ⟨60, _, rfl, rf60, (cut3_ok b s hb hs i (by omega) t1 hM1).mono fun v H' ⟨h1, t2, h2, h3, h4, h5⟩ => ⟨h1, t2, h2, h3, fun g hg => ?_⟩⟩
  rcases Nat.lt_succ_iff_lt_or_eq.1 hg with h | rfl
  · exact h4 _ (hK1 g h)
  · exact h5
theorem cut_R (c : List Tnt) (ls : List Lds) (s : Scl) (hcb : c.length ≤ bigN) (hb : ls.length ≤ bigN) (hs : ∀ x ∈ ls, x.st.length ≤ bigN) : Pure Try.prog 22 [curV c, ldsV ls, .agg s.cells] (.tuple [intsV (cutR c ls s).1, .int .i64 (cutR c ls s).2.1, .int .i64 (cutR c ls s).2.2]) := by
  refine Pure.start (N := 57) Try.func22 rfl rfl (Nat.le_of_ble_eq_true rfl) ?_
  refine AWp.seq ?_
  refine AWp.region ?_
  refine AList.c 5 rfl rfl rfl (OpJ.boxImm rfl rfl rfl) ?_
  refine AList.c 6 rfl rfl rfl (OpJ.assign rfl rfl) ?_
  refine AList.c 7 rfl rfl rfl (OpJ.assign rfl rfl) ?_
  refine AList.c 8 rfl rfl rfl (OpJ.assign rfl rfl) ?_
  refine AList.nil ?_
  refine AWp.seq ?_
  refine AWp.region ?_
  refine AList.c 17 rfl rfl rfl (OpJ.move rfl rfl) ?_
  refine AList.c 18 rfl rfl rfl (OpJ.move rfl rfl) ?_
  refine AList.c 19 rfl rfl rfl (OpJ.load rfl rfl ty41 rfl) ?_
  refine AList.c 20 rfl rfl rfl (OpJ.callP (isScale_ok s) rfl rfl rfl rfl rf54) ?_
  refine AList.c 21 rfl rfl rfl (OpJ.callP (open_ok c ls 10 (sclB s) (by omega) hcb hb hs) rfl rfl rfl rfl rf38) ?_
  refine AList.c 16 rfl rfl rfl (OpJ.move rfl rfl) ?_
  refine AList.c 22 rfl rfl rfl (OpJ.extract rfl rfl rfl) ?_
  refine AList.c 23 rfl rfl rfl (OpJ.extract rfl rfl rfl) ?_
  refine AList.c 9 rfl rfl rfl (OpJ.allocOwn rfl zr86 rfl) ?_
  refine AList.c0 rfl rfl (OpJ.store rfl rfl rfl rfl rfl ty86 rfl rfl) ?_
  refine AList.c 8 rfl rfl rfl (OpJ.assign rfl rfl) ?_
  refine AList.nil ?_
  refine AWp.seq ?_
  refine AWp.seq ?_
  refine AWp.region ?_
  refine AList.c 24 rfl rfl rfl (OpJ.move rfl rfl) ?_
  refine AList.c 25 rfl rfl rfl (OpJ.neq rfl rfl rfl) ?_
  refine AList.nil ?_
  refine AWp.cond _ rfl (fun hc0 => ?_) (fun hc0 => ?_)
  · skip
    have e : cutE c ls s ≠ 0 := by simpa [cutE] using hc0
    refine AWp.seq ?_
    refine AWp.region ?_
    refine AList.c 26 rfl rfl rfl (OpJ.move rfl rfl) ?_
    refine AList.c 6 rfl rfl rfl (OpJ.assign rfl rfl) ?_
    refine AList.c 7 rfl rfl rfl (OpJ.assign rfl rfl) ?_
    refine AList.c 8 rfl rfl rfl (OpJ.assign rfl rfl) ?_
    refine AList.nil ?_
    refine AWp.to (To.nilIs 6 rfl) ?_
    refine AWp.ret ?_
    have eR : cutR c ls s = ([], 0, openE c ls 10 (sclB s)) := if_neg e
    rw [eR]
    exact Fin.many (xs := [intsV [], .int .i64 0, .int .i64 (openE c ls 10 (sclB s))]) rfl (⟨_, _, rfl, rfl, ⟨_, _, rfl, rfl, ⟨_, _, rfl, rfl, rfl⟩⟩⟩) rfl
  · skip
    have e : openE c ls 10 (sclB s) = 0 := by simpa using hc0
    rw [openL_zero e, e]
    have hO := openE_zero.1 e
    have hZ := (sclB_iff s).1 hO.ov
    have hB := bok_open hO
    have hsn := hZ.n
    have e2 : cutE c ls s = 0 := e
    refine AWp.skip ?_
    refine AWp.seq ?_
    refine AWp.region ?_
    refine AList.c 10 rfl rfl rfl (OpJ.allocOwn rfl zr104 rfl) ?_
    refine AList.c0 rfl rfl (OpJ.store rfl rfl rfl rfl rfl ty104 rfl rfl) ?_
    refine AList.nil ?_
    refine AWp.seq ?_
    refine AWp.freeze 0 rfl rfl ?_
    refine AWp.freeze 1 rfl rfl ?_
    refine AWp.norm [] [(5, .p (sP s)), (9, .p (bP (ls.map (toB c)))), (10, .p sameP)] [] rfl (by repeat (first | exact Sub.nil | refine Sub.cons rfl ?_)) rfl ?_
    refine AWp.region ?_
    refine AList.c 11 rfl rfl rfl (OpJ.allocOwn rfl zr108c rfl) ?_
    refine AList.nil ?_
    refine AWp.seq ?_
    refine AWp.region ?_
    refine AList.c 12 rfl rfl rfl (OpJ.allocOwn rfl zr109 rfl) ?_
    refine AList.nil ?_
    refine AWp.seq ?_
    refine AWp.region ?_
    refine AList.c 27 rfl rfl rfl (OpJ.makeFunc rfl rfl rfl) ?_
    refine AList.c0 rfl rfl (OpJ.store rfl rfl rfl rfl rfl ty109 rfl rfl) ?_
    refine AList.nil ?_
    refine AWp.seq ?_
    refine AWp.norm [0, 1] [(5, .p (sP s)), (10, .p sameP), (11, .ptr 0 0), (12, .ptr 1 0)] (HH (ls.map (toB c)) s tb0) rfl (by repeat (first | exact Sub.nil | refine Sub.cons rfl ?_)) (by show [Blk.cells (renL _ (List.map _ _)) _, _] = _; rw [renL_pure]; rfl) ?_
    refine AWp.region ?_
    refine AList.c 29 rfl rfl rfl (OpJ.makeFunc rfl rfl rfl) ?_
    refine AList.c 30 rfl rfl rfl (OpJ.load rfl rfl ty104 rfl) ?_
    refine AList.callX 31 (best_ok 0 200 (.func (.func 60) [] [.ptr 1 0]) (.func (.func 55) [] []) (mostF (ls.map (toB c)) s s.n.toNat) (fun i H => ∃ t1, H = HH (ls.map (toB c)) s t1 ∧ MemoOk (ls.map (toB c)) s t1 ∧ ∀ g : Nat, g < i → (cho t1 (ix 0 g)).known = true) 201 rfl (by omega) (by omega) (by omega) (by omega) (cut_hof (ls.map (toB c)) s hB hZ) same_F (HH (ls.map (toB c)) s tb0) ⟨tb0, rfl, memo0 _ _, fun g h => by omega⟩) rfl rfl rfl rfl rfl rfl rfl rf57 (fun v H2 hQ2 => ?_)
    obtain ⟨rfl, t1, rfl, hM1, hK1⟩ := hQ2
    refine AList.c 28 rfl rfl rfl (OpJ.move rfl rfl) ?_
    refine AList.c 32 rfl rfl rfl (OpJ.extract rfl rfl rfl) ?_
    refine AList.c 33 rfl rfl rfl (OpJ.extract rfl rfl rfl) ?_
    refine AList.c 34 rfl rfl rfl (OpJ.extract rfl rfl rfl) ?_
    refine AList.c 7 rfl rfl rfl (OpJ.assign rfl rfl) ?_
    refine AList.c 13 rfl rfl rfl (OpJ.assign rfl rfl) ?_
    refine AList.c 14 rfl rfl rfl (OpJ.assign rfl rfl) ?_
    refine AList.nil ?_
    refine AWp.seq ?_
    refine AWp.seq ?_
    refine AWp.region ?_
    refine AList.c 35 rfl rfl rfl (OpJ.move rfl rfl) ?_
    refine AList.c 36 rfl rfl rfl (OpJ.not_ rfl rfl) ?_
    refine AList.nil ?_
    refine AWp.cond _ rfl (fun hc1 => ?_) (fun hc1 => ?_)
    · skip
      have hi : (cutB (ls.map (toB c)) s).2.2 = false := by simpa [cutB] using hc1
      refine AWp.seq ?_
      refine AWp.region ?_
      refine AList.c 6 rfl rfl rfl (OpJ.assign rfl rfl) ?_
      refine AList.c 7 rfl rfl rfl (OpJ.assign rfl rfl) ?_
      refine AList.c 8 rfl rfl rfl (OpJ.assign rfl rfl) ?_
      refine AList.nil ?_
      refine AWp.to (To.nilIs 6 rfl) ?_
      refine AWp.ret ?_
      have eR : cutR c ls s = ([], 0, 4) := by unfold cutR; rw [if_pos e2, if_neg (by rw [hi]; decide)]
      rw [eR]
      exact Fin.many (xs := [intsV [], .int .i64 0, .int .i64 4]) rfl (⟨_, _, rfl, rfl, ⟨_, _, rfl, rfl, ⟨_, _, rfl, rfl, rfl⟩⟩⟩) rfl
    · skip
      have hi : (cutB (ls.map (toB c)) s).2.2 = true := by simpa [cutB] using hc1
      have hf := cut_first hB hi
      have hfN := frN_ok hB hZ hf.1.1 hf.1.2 hf.2.1
      have hfX := fun (k : Nat) (hk : k < s.n.toNat) => frN_next hB hZ hf.1.1 hf.1.2 hf.2.1 hk
      refine AWp.skip ?_
      refine AWp.seq ?_
      refine AWp.region ?_
      refine AList.c 37 rfl rfl rfl (OpJ.move rfl rfl) ?_
      refine AList.c 38 rfl rfl rfl (OpJ.buildOwn rfl slz34 (by decide) rfl rfl) ?_
      refine AList.c 6 rfl rfl rfl (OpJ.assign rfl rfl) ?_
      refine AList.nil ?_
      refine AWp.seq ?_
      refine AWp.seq ?_
      refine AWp.region ?_
      refine AList.c 39 rfl rfl rfl (OpJ.fieldAddr rfl rfl fd41_0 rfl) ?_
      refine AList.c 40 rfl rfl rfl (OpJ.load rfl rfl ty3 rfl) ?_
      refine AList.c 41 rfl rfl rfl (OpJ.move rfl rfl) ?_
      refine AList.nil ?_
      refine AWp.block ?_
      refine AWp.loopHL [7, 11, 40, 55, 56] (fun g => [(41, .p (.int .i64 ((g : Nat) : Int))), (13, .p (.int .i64 (frN (ls.map (toB c)) s (cutB (ls.map (toB c)) s).2.1 g))), (6, accV 2 (g + 1))]) (fun g => [tblB t1, aftB (ls.map (toB c)) s, accB (((cutL (ls.map (toB c)) s (cutB (ls.map (toB c)) s).2.1 g).flatMap i1).map .p) 3 (g + 1)]) (fun g => g ≤ s.n.toNat ∧ (g < s.n.toNat → (cho t1 (ix g (frN (ls.map (toB c)) s (cutB (ls.map (toB c)) s).2.1 g).toNat)).known = true)) (fun g => s.n.toNat - g) 0 ⟨Nat.zero_le _, fun _ => hK1 _ (by have := hf.1; show ((cutB (ls.map (toB c)) s).2.1).toNat < 201; omega)⟩ (To.sub (Sub.chk (Sub.cons rfl (Sub.cons rfl (Sub.cons rfl (Sub.nil)))))) (fun i hg => ?_)
      obtain ⟨hg1, hg2⟩ := hg
      have hfn := hfN i hg1
      obtain ⟨u, hu⟩ : ∃ u : Nat, (frN (ls.map (toB c)) s (cutB (ls.map (toB c)) s).2.1 i) = (u : Int) := ⟨(frN (ls.map (toB c)) s (cutB (ls.map (toB c)) s).2.1 i).toNat, by omega⟩
      rw [hu]
      refine AWp.seq ?_
      refine AWp.region ?_
      refine AList.c 42 rfl rfl rfl (OpJ.lss rfl rfl rfl) ?_
      refine AList.nil ?_
      refine AWp.seq ?_
      refine AWp.cond _ rfl (fun hc2 => ?_) (fun hc2 => ?_)
      · skip
        have hk0 : i < s.n.toNat := by have h := of_decide_eq_true hc2; omega
        have hq := hg2 hk0
        have hix : ix i u < t1.length := by rw [hM1.len]; unfold ix; omega
        have hval := hM1.val i u hk0 (by omega) (by rw [hu] at hq; exact hq)
        refine AWp.skip ?_
        refine AWp.seq ?_
        refine AWp.block ?_
        refine AWp.seq ?_
        refine AWp.region ?_
        refine AList.c 43 rfl rfl rfl (OpJ.move rfl rfl) ?_
        refine AList.c 15 rfl rfl rfl (OpJ.assign rfl rfl) ?_
        refine AList.nil ?_
        refine AWp.seq ?_
        refine AWp.region ?_
        refine AList.c 44 rfl rfl rfl (OpJ.move rfl rfl) ?_
        refine AList.c 45 rfl rfl rfl (OpJ.move rfl rfl) ?_
        refine AList.c 46 rfl rfl rfl (OpJ.indexArrI rfl rfl rfl ar108 el108 (by omega)) ?_
        refine AList.c 47 rfl rfl rfl (OpJ.indexArrI rfl rfl rfl ar107 el107 (by omega)) ?_
        refine AList.c 48 rfl rfl rfl (OpJ.fieldAddr rfl rfl fd106_1 rfl) ?_
        refine AList.c 49 rfl rfl rfl (OpJ.loadFlat (f := Cho.cells) (c := 3) (k := (ix i u)) (j := 1) (xs := t1) rfl rfl ty3 rfl rfl (by unfold ix; omega) (fun _ => rfl) hix (by decide) (show _ = PV.int .i64 (frN (ls.map (toB c)) s (cutB (ls.map (toB c)) s).2.1 (i + 1)) from by rw [cho_get]; exact congrArg (PV.int .i64) (hval.2.trans (by rw [← hu]; rfl)))) ?_
        refine AList.c 13 rfl rfl rfl (OpJ.assign rfl rfl) ?_
        refine AList.nil ?_
        refine AWp.region ?_
        refine AList.c 50 rfl rfl rfl (OpJ.move rfl rfl) ?_
        refine AList.c 51 rfl rfl rfl (OpJ.move rfl rfl) ?_
        refine AList.c 52 rfl rfl rfl (OpJ.buildImm rfl slz34 (by decide) rfl rfl rfl) ?_
        refine AList.c 53 rfl rfl rfl (OpJ.appendRow rfl rfl rfl slz34 sl34 rfl ?_ rfl rfl by3 (by decide) ?_) ?_
        · rw [List.length_map, flat_len (c := 1) (fun _ => rfl), cutL_len]; rfl
        · show (2 * (i + 1 + 1) + 192) * 8 ≤ 281474976710656; omega
        refine AList.c 6 rfl rfl rfl (OpJ.assign rfl rfl) ?_
        refine AList.nil ?_
        refine AWp.region ?_
        refine AList.c 54 rfl rfl rfl (OpJ.add rfl rfl rfl (i64ok ?_)) ?_
        · omega
        refine AList.c 41 rfl rfl rfl (OpJ.move rfl rfl) ?_
        refine AList.nil ?_
        refine ⟨i + 1, ?_, ?_, ?_⟩
        · refine ⟨by omega, fun h => ?_⟩
          have hx := hfX i hk0
          have hf2 := hfN (i + 1) (by omega)
          exact hM1.nxt i u h (by omega) (by rw [hu] at hq; exact hq) _ (by omega) (by omega)
        · omega
        refine To.done [0, 1, 3] rfl (by repeat (first | exact Sub.nil | refine Sub.cons rfl ?_)) ?_
        show [Blk.cells (renL _ (List.map _ _)) _, _, Blk.row (renL _ (_ ++ _)) _] = [_, _, Blk.row _ _]
        rw [renL_pure, renL_app, renL_pure, cutL_succ, List.flatMap_append, List.map_append]
        rfl
      · skip
        obtain rfl : s.n.toNat = i := by have h := of_decide_eq_false hc2; omega
        refine AWp.to (To.accD 6 2 (s.n.toNat + 1) rfl rfl (fun h => by cases h)) ?_
        refine AWp.exit ?_
        refine AWp.seq ?_
        refine AWp.region ?_
        refine AList.c 55 rfl rfl rfl (OpJ.move rfl rfl) ?_
        refine AList.c 56 rfl rfl rfl (OpJ.move rfl rfl) ?_
        refine AList.c 6 rfl rfl rfl (OpJ.assign rfl rfl) ?_
        refine AList.c 7 rfl rfl rfl (OpJ.assign rfl rfl) ?_
        refine AList.c 8 rfl rfl rfl (OpJ.assign rfl rfl) ?_
        refine AList.nil ?_
        refine AWp.ret ?_
        have eR : cutR c ls s = (cutL (ls.map (toB c)) s (cutB (ls.map (toB c)) s).2.1 s.n.toNat, (cutB (ls.map (toB c)) s).1, 0) := by unfold cutR; rw [if_pos e2, if_pos hi]
        rw [eR]
        unfold intsV
        rw [cutL_len]
        exact Fin.many (xs := [.is ((cutL (ls.map (toB c)) s (cutB (ls.map (toB c)) s).2.1 s.n.toNat).flatMap i1) (s.n.toNat + 1), .int .i64 (cutB (ls.map (toB c)) s).1, .int .i64 0]) rfl (⟨_, _, rfl, rfl, ⟨_, _, rfl, rfl, ⟨_, _, rfl, rfl, rfl⟩⟩⟩) rfl
end Go.Proofs.Ythiapodcippnoaa
