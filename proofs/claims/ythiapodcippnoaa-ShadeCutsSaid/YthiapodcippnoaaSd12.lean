/-
  How black all leads can be.
-/
import Derived.Test.YthiapodcippnoaaSdFactsD
import Derived.Test.YthiapodcippnoaaSd9
import Derived.Test.YthiapodcippnoaaSdL
import Derived.Test.YthiapodcippnoaaSdO
set_option linter.unusedVariables false
set_option maxRecDepth 100000
set_option maxHeartbeats 4000000
set_option linter.unusedSimpArgs false
namespace Go.Proofs.Ythiapodcippnoaa
open Go.AF
theorem blacks_ok (c : List Tnt) (ls : List Lds) (hcb : c.length ≤ bigN) (hb : ls.length ≤ bigN) (hs : ∀ x ∈ ls, x.st.length ≤ bigN) (hn : ls.length ≤ 1000) : Pure Try.prog 34 [curV c, ldsV ls] (.tuple [spsV (if blksB c ls then (ls.map (blk c)) else []), .bool (blksB c ls)]) := by
  refine Pure.start (N := 31) Try.func34 rfl rfl (Nat.le_of_ble_eq_true rfl) ?_
  refine AWp.seq ?_
  refine AWp.region ?_
  refine AList.c 4 rfl rfl rfl (OpJ.assign rfl rfl) ?_
  refine AList.c 5 rfl rfl rfl (OpJ.assign rfl rfl) ?_
  refine AList.nil ?_
  refine AWp.seq ?_
  refine AWp.region ?_
  refine AList.c 6 rfl rfl rfl (OpJ.assign rfl rfl) ?_
  refine AList.nil ?_
  refine AWp.seq ?_
  refine AWp.seq ?_
  refine AWp.region ?_
  refine AList.c 11 rfl rfl rfl (OpJ.move rfl rfl) ?_
  refine AList.c 12 rfl rfl rfl (OpJ.lenSlice rfl rfl sl39 rfl) ?_
  refine AList.c 13 rfl rfl rfl (OpJ.move rfl rfl) ?_
  refine AList.nil ?_
  refine AWp.block ?_
  refine AWp.loopHL [0, 11, 12, 30] (fun g => [(13, .p (.int .i64 ((g : Nat) : Int))), (6, accV 0 g)]) (fun g => [accB ((((ls.map (blk c)).take g).flatMap spC).map .p) 25 g]) (fun g => g ≤ ls.length ∧ ∀ j, j < g → (blackR c (ld ls j)).2 = 0) (fun g => ls.length - g) 0 ⟨Nat.zero_le _, fun j hj => absurd hj (by omega)⟩ (To.pad.trans (To.sub (Sub.chk (Sub.cons rfl (Sub.cons rfl Sub.nil))))) (fun i hg => ?_)
  obtain ⟨hg1, hg2⟩ := hg
  refine AWp.seq ?_
  refine AWp.region ?_
  refine AList.c 14 rfl rfl rfl (OpJ.lss rfl rfl rfl) ?_
  refine AList.nil ?_
  refine AWp.seq ?_
  refine AWp.cond _ rfl (fun hc0 => ?_) (fun hc0 => ?_)
  · skip
    have hk0 : i < ls.length := by have h := of_decide_eq_true hc0; omega
    refine AWp.skip ?_
    refine AWp.seq ?_
    refine AWp.block ?_
    refine AWp.seq ?_
    refine AWp.region ?_
    refine AList.c 15 rfl rfl rfl (OpJ.indexG (g := ld ls) (fun _ h => ld_get h) rfl rfl rfl sl39 el39 rfl (fun _ => rfl) (by decide) hk0) ?_
    refine AList.c 16 rfl rfl rfl (OpJ.load (v := .p (ldV (ld ls i))) rfl rfl ty28 rfl) ?_
    refine AList.c 8 rfl rfl rfl (OpJ.allocOwn rfl zr28 rfl) ?_
    refine AList.c0 rfl rfl (OpJ.store (H' := [accB ((((ls.map (blk c)).take i).flatMap spC).map .p) 25 i, .cells ((ld ls i).cells.map .p) 28]) rfl rfl rfl rfl rfl ty28 rfl rfl) ?_
    refine AList.nil ?_
    refine AWp.seq ?_
    refine AWp.region ?_
    refine AList.c 18 rfl rfl rfl (OpJ.move rfl rfl) ?_
    refine AList.c 19 rfl rfl rfl (OpJ.load (v := .p (ldV (ld ls i))) rfl rfl ty28 rfl) ?_
    refine AList.c 20 rfl rfl rfl (OpJ.callP (black_R c (ld ls i) hcb (hs _ (ld_mem hk0))) rfl rfl rfl rfl rf15) ?_
    refine AList.c 17 rfl rfl rfl (OpJ.move rfl rfl) ?_
    refine AList.c 21 rfl rfl rfl (OpJ.extract rfl rfl rfl) ?_
    refine AList.c 22 rfl rfl rfl (OpJ.extract rfl rfl rfl) ?_
    refine AList.c 9 rfl rfl rfl (OpJ.allocOwn rfl zr25 rfl) ?_
    refine AList.c0 rfl rfl (OpJ.store rfl rfl rfl rfl rfl ty25 rfl rfl) ?_
    refine AList.c 10 rfl rfl rfl (OpJ.assign rfl rfl) ?_
    refine AList.nil ?_
    refine AWp.seq ?_
    refine AWp.seq ?_
    refine AWp.region ?_
    refine AList.c 23 rfl rfl rfl (OpJ.move rfl rfl) ?_
    refine AList.c 24 rfl rfl rfl (OpJ.neq rfl rfl rfl) ?_
    refine AList.nil ?_
    refine AWp.cond _ rfl (fun hc1 => ?_) (fun hc1 => ?_)
    · skip
      have e : (blackR c (ld ls i)).2 ≠ 0 := by simpa using hc1
      refine AWp.seq ?_
      refine AWp.region ?_
      refine AList.c 4 rfl rfl rfl (OpJ.assign rfl rfl) ?_
      refine AList.c 5 rfl rfl rfl (OpJ.assign rfl rfl) ?_
      refine AList.nil ?_
      refine AWp.to (To.nilIs 4 rfl) ?_
      refine AWp.ret ?_
      have eB : blksB c ls = false := all_false (ld_mem hk0) (decide_eq_false e)
      rw [eB]
      exact Fin.many (xs := [spsV [], .bool false]) rfl (⟨_, _, rfl, rfl, ⟨_, _, rfl, rfl, rfl⟩⟩) rfl
    · skip
      have e : (blackR c (ld ls i)).2 = 0 := by simpa using hc1
      rw [blackR_fst e]
      have hk1 : i < (ls.map (blk c)).length := by rw [List.length_map]; exact hk0
      refine AWp.skip ?_
      refine AWp.region ?_
      refine AList.c 25 rfl rfl rfl (OpJ.move rfl rfl) ?_
      refine AList.c 26 rfl rfl rfl (OpJ.load rfl rfl ty25 rfl) ?_
      refine AList.c 27 rfl rfl rfl (OpJ.buildImm rfl slz57 (by decide) rfl rfl rfl) ?_
      refine AList.c 28 rfl rfl rfl (OpJ.appendAcc rfl rfl rfl slz57 sl57 rfl ?_ rfl (by decide) rfl by25 (by decide) ?_) ?_
      · rw [List.length_map, flat_len (c := 2) (fun _ => rfl), List.length_take, List.length_map]; show min i ls.length * 2 = i * 2; omega
      · show (2 * (i + 1) + 192) * 16 ≤ 281474976710656; omega
      refine AList.c 6 rfl rfl rfl (OpJ.assign rfl rfl) ?_
      refine AList.nil ?_
      refine AWp.region ?_
      refine AList.c 29 rfl rfl rfl (OpJ.add rfl rfl rfl (i64ok ?_)) ?_
      · omega
      refine AList.c 13 rfl rfl rfl (OpJ.move rfl rfl) ?_
      refine AList.nil ?_
      refine ⟨i + 1, ?_, ?_, ?_⟩
      · refine ⟨by omega, fun j hj => ?_⟩
        rcases Nat.lt_succ_iff_lt_or_eq.1 hj with h1 | rfl
        · exact hg2 j h1
        · exact e
      · omega
      refine To.done [3] rfl (by repeat (first | exact Sub.nil | refine Sub.cons rfl ?_)) ?_
      show [Blk.row (renL _ (_ ++ _)) _] = [Blk.row _ _]
      rw [renL_app, renL_pure, List.take_succ_eq_append_getElem hk1, List.flatMap_append, List.map_append, blk_get c ls i hk1]
      rfl
  · skip
    obtain rfl : ls.length = i := by have h := of_decide_eq_false hc0; omega
    refine AWp.exit ?_
    refine AWp.seq ?_
    refine AWp.region ?_
    refine AList.c 30 rfl rfl rfl (OpJ.move rfl rfl) ?_
    refine AList.c 4 rfl rfl rfl (OpJ.assign rfl rfl) ?_
    refine AList.c 5 rfl rfl rfl (OpJ.assign rfl rfl) ?_
    refine AList.nil ?_
    refine AWp.to (To.accD 4 0 ls.length rfl rfl (fun h => by rw [h]; rfl)) ?_
    refine AWp.ret ?_
    have eB : blksB c ls = true := by unfold blksB; rw [List.all_eq_true]; intro x hx; obtain ⟨j, hj, rfl⟩ := List.getElem_of_mem hx; rw [ld_get hj]; exact decide_eq_true (hg2 j hj)
    rw [eB, if_pos rfl]
    have eT : spsV (ls.map (blk c)) = .is (((ls.map (blk c)).take ls.length).flatMap spC) ls.length := by unfold spsV; rw [List.take_of_length_le (by rw [List.length_map]; exact Nat.le_refl _), List.length_map]
    rw [eT]
    exact Fin.many (xs := [.is (((ls.map (blk c)).take ls.length).flatMap spC) ls.length, .bool true]) rfl (⟨_, _, rfl, rfl, ⟨_, _, rfl, rfl, rfl⟩⟩) rfl
end Go.Proofs.Ythiapodcippnoaa
