/-
  Ordered and Cut in the other text.
-/
import Derived.Test.YthiapodcippnoaaSdFactsL
import Derived.Test.YthiapodcippnoaaSd12
import Derived.Test.YthiapodcippnoaaSdK
import Derived.Test.YthiapodcippnoaaAfO
set_option linter.unusedVariables false
set_option maxRecDepth 100000
set_option maxHeartbeats 4000000
set_option linter.unusedSimpArgs false
namespace Go.Proofs.Ythiapodcippnoaa
open Go.AF
theorem spans_ok (c : List Tnt) (ls : List Lds) (hC : okC c) (hL : ∀ x ∈ ls, OkL x) (hn : ls.length ≤ 1000) : Pure Try.prog 53 [curV c, ldsV ls] (.tuple [spsV (if ls.all (blkB c) then (ls.map (blk c)) else []), .bool (ls.all (blkB c))]) := by
  refine Pure.start (N := 32) Try.func53 rfl rfl (Nat.le_of_ble_eq_true rfl) ?_
  refine AWp.seq ?_
  refine AWp.region ?_
  refine AList.c 4 rfl rfl rfl (OpJ.assign rfl rfl) ?_
  refine AList.c 5 rfl rfl rfl (OpJ.assign rfl rfl) ?_
  refine AList.nil ?_
  refine AWp.seq ?_
  refine AWp.region ?_
  refine AList.c 6 rfl rfl rfl (OpJ.assign rfl rfl) ?_
  refine AList.nil ?_
  refine AWp.seq ?_
  refine AWp.seq ?_
  refine AWp.region ?_
  refine AList.c 7 rfl rfl rfl (OpJ.assign rfl rfl) ?_
  refine AList.nil ?_
  refine AWp.block ?_
  refine AWp.loopHL [0, 1, 31] (fun g => [(7, .p (.int .i64 ((g : Nat) : Int))), (6, accV 0 g)]) (fun g => [accB ((((ls.map (blk c)).take g).flatMap spC).map .p) 25 g]) (fun g => g ≤ ls.length ∧ ∀ j, j < g → blkB c (ld ls j) = true) (fun g => ls.length - g) 0 ⟨Nat.zero_le _, fun j hj => absurd hj (by omega)⟩ (To.pad.trans (To.sub (Sub.chk (Sub.cons rfl (Sub.cons rfl Sub.nil))))) (fun i hg => ?_)
  obtain ⟨hg1, hg2⟩ := hg
  refine AWp.seq ?_
  refine AWp.seq ?_
  refine AWp.region ?_
  refine AList.c 10 rfl rfl rfl (OpJ.move rfl rfl) ?_
  refine AList.c 11 rfl rfl rfl (OpJ.move rfl rfl) ?_
  refine AList.c 12 rfl rfl rfl (OpJ.lenSlice rfl rfl sl39 rfl) ?_
  refine AList.c 13 rfl rfl rfl (OpJ.lss rfl rfl rfl) ?_
  refine AList.nil ?_
  refine AWp.cond _ rfl (fun hc0 => ?_) (fun hc0 => ?_)
  · skip
    have hk0 : i < ls.length := by have h := of_decide_eq_true hc0; omega
    refine AWp.skip ?_
    refine AWp.seq ?_
    refine AWp.block ?_
    refine AWp.seq ?_
    refine AWp.region ?_
    refine AList.c 17 rfl rfl rfl (OpJ.move rfl rfl) ?_
    refine AList.c 18 rfl rfl rfl (OpJ.move rfl rfl) ?_
    refine AList.c 19 rfl rfl rfl (OpJ.move rfl rfl) ?_
    refine AList.c 20 rfl rfl rfl (OpJ.indexG (g := ld ls) (fun _ h => ld_get h) rfl rfl rfl sl39 el39 rfl (fun _ => rfl) (by decide) hk0) ?_
    refine AList.c 21 rfl rfl rfl (OpJ.load (v := .p (ldV (ld ls i))) rfl rfl ty28 rfl) ?_
    refine AList.c 22 rfl rfl rfl (OpJ.callP (rspan_R c (ld ls i) hC (hL _ (ld_mem hk0))) rfl rfl rfl rfl rf39) ?_
    refine AList.c 16 rfl rfl rfl (OpJ.move rfl rfl) ?_
    refine AList.c 23 rfl rfl rfl (OpJ.extract rfl rfl rfl) ?_
    refine AList.c 24 rfl rfl rfl (OpJ.extract rfl rfl rfl) ?_
    refine AList.c 8 rfl rfl rfl (OpJ.allocOwn rfl zr25 rfl) ?_
    refine AList.c0 rfl rfl (OpJ.store (H' := [accB ((((ls.map (blk c)).take i).flatMap spC).map .p) 25 i, .cells [.p (.int .i64 (if blkB c (ld ls i) then blk c (ld ls i) else (0, 0)).1), .p (.int .i64 (if blkB c (ld ls i) then blk c (ld ls i) else (0, 0)).2)] 25]) rfl rfl rfl rfl rfl ty25 rfl rfl) ?_
    refine AList.c 9 rfl rfl rfl (OpJ.assign rfl rfl) ?_
    refine AList.nil ?_
    refine AWp.seq ?_
    refine AWp.seq ?_
    refine AWp.region ?_
    refine AList.c 25 rfl rfl rfl (OpJ.move rfl rfl) ?_
    refine AList.c 26 rfl rfl rfl (OpJ.not_ rfl rfl) ?_
    refine AList.nil ?_
    refine AWp.cond _ rfl (fun hc1 => ?_) (fun hc1 => ?_)
    · skip
      have e : blkB c (ld ls i) = false := by simpa using hc1
      refine AWp.seq ?_
      refine AWp.region ?_
      refine AList.c 4 rfl rfl rfl (OpJ.assign rfl rfl) ?_
      refine AList.c 5 rfl rfl rfl (OpJ.assign rfl rfl) ?_
      refine AList.nil ?_
      refine AWp.to (To.nilIs 4 rfl) ?_
      refine AWp.ret ?_
      have eB : ls.all (blkB c) = false := all_false (ld_mem hk0) e
      rw [eB]
      exact Fin.many (xs := [spsV [], .bool false]) rfl (⟨_, _, rfl, rfl, ⟨_, _, rfl, rfl, rfl⟩⟩) rfl
    · skip
      have e : blkB c (ld ls i) = true := by simpa using hc1
      rw [if_pos e]
      have hk1 : i < (ls.map (blk c)).length := by rw [List.length_map]; exact hk0
      refine AWp.skip ?_
      refine AWp.region ?_
      refine AList.c 27 rfl rfl rfl (OpJ.move rfl rfl) ?_
      refine AList.c 28 rfl rfl rfl (OpJ.load (v := .p (.agg (spC (blk c (ld ls i))))) rfl rfl ty25 rfl) ?_
      refine AList.c 29 rfl rfl rfl (OpJ.buildImm rfl slz57 (by decide) rfl rfl rfl) ?_
      refine AList.c 30 rfl rfl rfl (OpJ.appendAcc rfl rfl rfl slz57 sl57 rfl ?_ rfl (by decide) rfl by25 (by decide) ?_) ?_
      · rw [List.length_map, flat_len (c := 2) (fun _ => rfl), List.length_take, List.length_map]; show min i ls.length * 2 = i * 2; omega
      · show (2 * (i + 1) + 192) * 16 ≤ 281474976710656; omega
      refine AList.c 6 rfl rfl rfl (OpJ.assign rfl rfl) ?_
      refine AList.nil ?_
      refine AWp.region ?_
      refine AList.c 14 rfl rfl rfl (OpJ.move rfl rfl) ?_
      refine AList.c 15 rfl rfl rfl (OpJ.add rfl rfl rfl (i64ok ?_)) ?_
      · omega
      refine AList.c 7 rfl rfl rfl (OpJ.assign rfl rfl) ?_
      refine AList.nil ?_
      refine ⟨i + 1, ?_, ?_, ?_⟩
      · refine ⟨by omega, fun j hj => ?_⟩
        rcases Nat.lt_succ_iff_lt_or_eq.1 hj with h1 | rfl
        · exact hg2 j h1
        · exact e
      · omega
      refine To.done [2] rfl (by repeat (first | exact Sub.nil | refine Sub.cons rfl ?_)) ?_
      show [Blk.row (renL _ (_ ++ _)) _] = [Blk.row _ _]
      rw [renL_app, renL_pure, List.take_succ_eq_append_getElem hk1, List.flatMap_append, List.map_append, blk_get c ls i hk1]
      rfl
  · skip
    obtain rfl : ls.length = i := by have h := of_decide_eq_false hc0; omega
    refine AWp.exit ?_
    refine AWp.seq ?_
    refine AWp.region ?_
    refine AList.c 31 rfl rfl rfl (OpJ.move rfl rfl) ?_
    refine AList.c 4 rfl rfl rfl (OpJ.assign rfl rfl) ?_
    refine AList.c 5 rfl rfl rfl (OpJ.assign rfl rfl) ?_
    refine AList.nil ?_
    refine AWp.to (To.accD 4 0 ls.length rfl rfl (fun h => by rw [h]; rfl)) ?_
    refine AWp.ret ?_
    have eB : ls.all (blkB c) = true := by rw [List.all_eq_true]; intro x hx; obtain ⟨j, hj, rfl⟩ := List.getElem_of_mem hx; rw [ld_get hj]; exact hg2 j hj
    rw [eB, if_pos rfl]
    have eT : spsV (ls.map (blk c)) = .is (((ls.map (blk c)).take ls.length).flatMap spC) ls.length := by unfold spsV; rw [List.take_of_length_le (by rw [List.length_map]; exact Nat.le_refl _), List.length_map]
    rw [eT]
    exact Fin.many (xs := [.is (((ls.map (blk c)).take ls.length).flatMap spC) ls.length, .bool true]) rfl (⟨_, _, rfl, rfl, ⟨_, _, rfl, rfl, rfl⟩⟩) rfl
theorem rsold_ok (c : List Tnt) (ls : List Lds) (gap fr to : Int) (hb : BOk (ls.map (toB c))) (g0 : 0 ≤ gap) (g1 : gap ≤ 200) : Pure Try.prog 61 [ldsV ls, spsV (ls.map (blk c)), .int .i64 gap, .int .i64 fr, .int .i64 to] (.int .i64 (soldF (ls.map (toB c)) gap fr to)) := by
  have hn := hb.n
  rw [List.length_map] at hn
  refine Pure.start (N := 45) Try.func61 rfl rfl (Nat.le_of_ble_eq_true rfl) ?_
  refine AWp.seq ?_
  refine AWp.region ?_
  refine AList.c 10 rfl rfl rfl (OpJ.assign rfl rfl) ?_
  refine AList.nil ?_
  refine AWp.seq ?_
  refine AWp.region ?_
  refine AList.c 11 rfl rfl rfl (OpJ.assign rfl rfl) ?_
  refine AList.nil ?_
  refine AWp.seq ?_
  refine AWp.seq ?_
  refine AWp.region ?_
  refine AList.c 12 rfl rfl rfl (OpJ.assign rfl rfl) ?_
  refine AList.nil ?_
  refine AWp.block ?_
  refine AWp.loopKL [0, 1, 2, 3, 4, 10, 44] (fun g => [(12, .p (.int .i64 ((g : Nat) : Int))), (11, .p (.int .i64 (soldF ((ls.map (toB c)).take g) gap fr to)))]) (fun g => g ≤ ls.length) (fun g => ls.length - g) 0 (Nat.zero_le _) (Sub.cons rfl (Sub.cons rfl (Sub.nil))) (fun i hg => ?_)
  refine AWp.seq ?_
  refine AWp.seq ?_
  refine AWp.region ?_
  refine AList.c 13 rfl rfl rfl (OpJ.move rfl rfl) ?_
  refine AList.c 14 rfl rfl rfl (OpJ.move rfl rfl) ?_
  refine AList.c 15 rfl rfl rfl (OpJ.lenSlice rfl rfl sl39 rfl) ?_
  refine AList.c 16 rfl rfl rfl (OpJ.lss rfl rfl rfl) ?_
  refine AList.nil ?_
  refine AWp.cond _ rfl (fun hc0 => ?_) (fun hc0 => ?_)
  · skip
    have hk0 : i < ls.length := by have h := of_decide_eq_true hc0; omega
    have hkb : i < (ls.map (toB c)).length := by rw [List.length_map]; exact hk0
    have hbc := bc_map c ls hk0
    have hx := hb.x _ (bc_mem hkb)
    rw [hbc] at hx
    have hB := sold_takeB hb gap fr to i
    have hT := sold_take (gap := gap) (fr := fr) (to := to) hkb
    rw [hbc] at hT
    have x0 : 0 ≤ (blk c (ld ls i)).1 ∧ (blk c (ld ls i)).1 ≤ (blk c (ld ls i)).2 ∧ (blk c (ld ls i)).2 ≤ 200 := hx.1
    have x1 : 0 ≤ (ld ls i).many ∧ (ld ls i).many ≤ 1048576 := hx.2
    refine AWp.skip ?_
    refine AWp.seq ?_
    refine AWp.block ?_
    refine AWp.seq ?_
    refine AWp.region ?_
    refine AList.c 19 rfl rfl rfl (OpJ.move rfl rfl) ?_
    refine AList.c 20 rfl rfl rfl (OpJ.move rfl rfl) ?_
    refine AList.c 21 rfl rfl rfl (OpJ.indexG (g := (fun i => blk c (ld ls i))) (blk_get c ls) rfl rfl rfl sl57 el57 rfl (fun _ => rfl) (by decide) (by rw [List.length_map]; exact hk0)) ?_
    refine AList.c 22 rfl rfl rfl (OpJ.fieldAddr rfl rfl fd25_0 rfl) ?_
    refine AList.c 23 rfl rfl rfl (OpJ.load rfl rfl ty3 rfl) ?_
    refine AList.c 24 rfl rfl rfl (OpJ.move rfl rfl) ?_
    refine AList.c 25 rfl rfl rfl (OpJ.geq rfl rfl rfl) ?_
    refine AList.c 26 rfl rfl rfl (OpJ.move rfl rfl) ?_
    refine AList.g 27 26 rfl rfl rfl rfl rfl rfl rfl [(1, _)] (fun h => And.intro (.inl rfl) (trivial)) (fun h => (OpJ.move rfl rfl)) ?_
    refine AList.g 28 26 rfl rfl rfl rfl rfl rfl rfl [(12, _)] (fun h => And.intro (.inl rfl) (trivial)) (fun h => (OpJ.move rfl rfl)) ?_
    refine AList.g 29 26 rfl rfl rfl rfl rfl rfl rfl [(27, _), (28, _)] (fun h => And.intro (.inr ⟨_, rfl, h⟩) (And.intro (.inr ⟨_, rfl, h⟩) (trivial))) (fun h => (OpJ.indexG (g := (fun i => blk c (ld ls i))) (blk_get c ls) rfl rfl rfl sl57 el57 rfl (fun _ => rfl) (by decide) (by rw [List.length_map]; exact hk0))) ?_
    refine AList.g 30 26 rfl rfl rfl rfl rfl rfl rfl [(29, _)] (fun h => And.intro (.inr ⟨_, rfl, h⟩) (trivial)) (fun h => (OpJ.fieldAddr rfl rfl fd25_1 rfl)) ?_
    refine AList.g 31 26 rfl rfl rfl rfl rfl rfl rfl [(30, _)] (fun h => And.intro (.inr ⟨_, rfl, h⟩) (trivial)) (fun h => (OpJ.load rfl rfl ty3 rfl)) ?_
    refine AList.g 32 26 rfl rfl rfl rfl rfl rfl rfl [(2, _)] (fun h => And.intro (.inl rfl) (trivial)) (fun h => (OpJ.move rfl rfl)) ?_
    refine AList.g 33 26 rfl rfl rfl rfl rfl rfl rfl [(31, _), (32, _)] (fun h => And.intro (.inr ⟨_, rfl, h⟩) (And.intro (.inr ⟨_, rfl, h⟩) (trivial))) (fun h => (OpJ.add rfl rfl rfl (i64ok (by show _ ≤ (blk c (ld ls i)).2 + gap ∧ (blk c (ld ls i)).2 + gap ≤ _; omega)))) ?_
    refine AList.g 34 26 rfl rfl rfl rfl rfl rfl rfl [(4, _)] (fun h => And.intro (.inl rfl) (trivial)) (fun h => (OpJ.move rfl rfl)) ?_
    refine AList.g 35 26 rfl rfl rfl rfl rfl rfl rfl [(33, _), (34, _)] (fun h => And.intro (.inr ⟨_, rfl, h⟩) (And.intro (.inr ⟨_, rfl, h⟩) (trivial))) (fun h => (OpJ.leq rfl rfl rfl)) ?_
    refine AList.c 36 rfl rfl rfl (OpJ.and_ rfl rfl rfl ?_) ?_
    · first | (intro h; rw [h]; rfl) | (intro h; simp_all)
    refine AList.nil ?_
    refine AWp.cond _ rfl (fun hc1 => ?_) (fun hc1 => ?_)
    · skip
      have hX : soldX gap fr to (toB c (ld ls i)) = (ld ls i).many := if_neg (by show ¬ ((blk c (ld ls i)).1 < fr ∨ to < (blk c (ld ls i)).2 + gap); simp at hc1; omega)
      refine AWp.region ?_
      refine AList.c 37 rfl rfl rfl (OpJ.move rfl rfl) ?_
      refine AList.c 38 rfl rfl rfl (OpJ.move rfl rfl) ?_
      refine AList.c 39 rfl rfl rfl (OpJ.move rfl rfl) ?_
      refine AList.c 40 rfl rfl rfl (OpJ.indexG (g := ld ls) (fun _ h => ld_get h) rfl rfl rfl sl39 el39 rfl (fun _ => rfl) (by decide) hk0) ?_
      refine AList.c 41 rfl rfl rfl (OpJ.fieldAddr rfl rfl fd28_6 rfl) ?_
      refine AList.c 42 rfl rfl rfl (OpJ.load rfl rfl ty3 rfl) ?_
      refine AList.c 43 rfl rfl rfl (OpJ.add rfl rfl rfl (i64ok ?_)) ?_
      · omega
      refine AList.c 11 rfl rfl rfl (OpJ.assign rfl rfl) ?_
      refine AList.nil ?_
      refine AWp.region ?_
      refine AList.c 17 rfl rfl rfl (OpJ.move rfl rfl) ?_
      refine AList.c 18 rfl rfl rfl (OpJ.add rfl rfl rfl (i64ok ?_)) ?_
      · omega
      refine AList.c 12 rfl rfl rfl (OpJ.assign rfl rfl) ?_
      refine AList.nil ?_
      refine ⟨i + 1, ?_, ?_, ?_⟩
      · omega
      · omega
      refine To.done [] rfl (Sub.cons rfl (Sub.cons (by rw [hT, hX]; rfl) (by repeat (first | exact Sub.nil | refine Sub.cons rfl ?_)))) rfl
    · skip
      have hX : soldX gap fr to (toB c (ld ls i)) = 0 := if_pos (by show (blk c (ld ls i)).1 < fr ∨ to < (blk c (ld ls i)).2 + gap; simp at hc1; omega)
      refine AWp.skip ?_
      refine AWp.region ?_
      refine AList.c 17 rfl rfl rfl (OpJ.move rfl rfl) ?_
      refine AList.c 18 rfl rfl rfl (OpJ.add rfl rfl rfl (i64ok ?_)) ?_
      · omega
      refine AList.c 12 rfl rfl rfl (OpJ.assign rfl rfl) ?_
      refine AList.nil ?_
      refine ⟨i + 1, ?_, ?_, ?_⟩
      · omega
      · omega
      refine To.done [] rfl (Sub.cons rfl (Sub.cons (by rw [hT, hX, Int.add_zero]; rfl) (by repeat (first | exact Sub.nil | refine Sub.cons rfl ?_)))) rfl
  · skip
    obtain rfl : i = ls.length := by have h := of_decide_eq_false hc0; omega
    rw [List.take_of_length_le (by rw [List.length_map]; exact Nat.le_refl _)]
    refine AWp.exit ?_
    refine AWp.seq ?_
    refine AWp.region ?_
    refine AList.c 44 rfl rfl rfl (OpJ.move rfl rfl) ?_
    refine AList.c 10 rfl rfl rfl (OpJ.assign rfl rfl) ?_
    refine AList.nil ?_
    refine AWp.ret ?_
    exact Fin.one rfl (rfl)
theorem wrongJ_at (c : List Tnt) (ls : List Lds) (nms : List Int) (gap : Int) {i k : Nat} (hk : k < ls.length) : wrongJ c ls nms gap (i * ls.length + k) = wrongB c ls nms gap i k ∧ (i * ls.length + k) / ls.length = i ∧ (i * ls.length + k) % ls.length = k := by
  have e1 : (i * ls.length + k) / ls.length = i := by
    rw [Nat.add_comm, Nat.add_mul_div_right _ _ (by omega), Nat.div_eq_of_lt hk, Nat.zero_add]
  have e2 : (i * ls.length + k) % ls.length = k := by
    rw [Nat.add_comm, Nat.add_mul_mod_self_right, Nat.mod_eq_of_lt hk]
  refine ⟨?_, e1, e2⟩
  unfold wrongJ
  rw [e1, e2]
theorem rordered_R (c : List Tnt) (ls : List Lds) (nms : List Int) (gap : Int) (hcb : c.length ≤ bigN) (hb : ls.length ≤ bigN) (hs : ∀ x ∈ ls, x.st.length ≤ bigN) (ha : nms.length ≤ bigN) : Pure Try.prog 21 [curV c, ldsV ls, intsV nms, .int .i64 gap] (.tuple [.int .i64 (ordR c ls nms gap).1, .int .i64 (ordR c ls nms gap).2.1, .int .i64 (ordR c ls nms gap).2.2]) := by
  have hb2 := hb
  have ha2 := ha
  unfold bigN at hb2 ha2
  refine Pure.start (N := 97) Try.func21 rfl rfl (Nat.le_of_ble_eq_true rfl) ?_
  refine AWp.seq ?_
  refine AWp.region ?_
  refine AList.c 8 rfl rfl rfl (OpJ.assign rfl rfl) ?_
  refine AList.c 9 rfl rfl rfl (OpJ.assign rfl rfl) ?_
  refine AList.c 10 rfl rfl rfl (OpJ.assign rfl rfl) ?_
  refine AList.nil ?_
  refine AWp.seq ?_
  refine AWp.seq ?_
  refine AWp.region ?_
  refine AList.c 16 rfl rfl rfl (OpJ.move rfl rfl) ?_
  refine AList.c 17 rfl rfl rfl (OpJ.callP (rcurve_ok c hcb) rfl rfl rfl rfl rf28) ?_
  refine AList.c 18 rfl rfl rfl (OpJ.not_ rfl rfl) ?_
  refine AList.nil ?_
  refine AWp.cond _ rfl (fun hc0 => ?_) (fun hc0 => ?_)
  · skip
    have hC : ¬ okC c := by simpa using hc0
    refine AWp.seq ?_
    refine AWp.region ?_
    refine AList.c 8 rfl rfl rfl (OpJ.assign rfl rfl) ?_
    refine AList.c 9 rfl rfl rfl (OpJ.assign rfl rfl) ?_
    refine AList.c 10 rfl rfl rfl (OpJ.assign rfl rfl) ?_
    refine AList.nil ?_
    refine AWp.ret ?_
    have eE : openE c ls 10 (ordV ls nms gap) = 1 := by rw [openE_eq]; rw [if_neg hC]
    have eR : ordR c ls nms gap = (0, 0, 1) := by unfold ordR; rw [if_neg (by rw [eE]; decide), eE]
    rw [eR]
    exact Fin.many (xs := [.int .i64 0, .int .i64 0, .int .i64 1]) rfl (⟨_, _, rfl, rfl, ⟨_, _, rfl, rfl, ⟨_, _, rfl, rfl, rfl⟩⟩⟩) rfl
  · skip
    have hC : okC c := by simpa using hc0
    refine AWp.skip ?_
    refine AWp.seq ?_
    refine AWp.seq ?_
    refine AWp.region ?_
    refine AList.c 19 rfl rfl rfl (OpJ.move rfl rfl) ?_
    refine AList.c 20 rfl rfl rfl (OpJ.lenSlice rfl rfl sl39 rfl) ?_
    refine AList.c 21 rfl rfl rfl (OpJ.gtr rfl rfl rfl) ?_
    refine AList.nil ?_
    refine AWp.cond _ rfl (fun hc1 => ?_) (fun hc1 => ?_)
    · skip
      have hm : (10 : Int) < ls.length := by have h := of_decide_eq_true hc1; omega
      refine AWp.seq ?_
      refine AWp.region ?_
      refine AList.c 8 rfl rfl rfl (OpJ.assign rfl rfl) ?_
      refine AList.c 9 rfl rfl rfl (OpJ.assign rfl rfl) ?_
      refine AList.c 10 rfl rfl rfl (OpJ.assign rfl rfl) ?_
      refine AList.nil ?_
      refine AWp.ret ?_
      have eE : openE c ls 10 (ordV ls nms gap) = 3 := by rw [openE_eq]; rw [if_pos hC, if_pos hm]
      have eR : ordR c ls nms gap = (0, 0, 3) := by unfold ordR; rw [if_neg (by rw [eE]; decide), eE]
      rw [eR]
      exact Fin.many (xs := [.int .i64 0, .int .i64 0, .int .i64 3]) rfl (⟨_, _, rfl, rfl, ⟨_, _, rfl, rfl, ⟨_, _, rfl, rfl, rfl⟩⟩⟩) rfl
    · skip
      have hm : ¬ (10 : Int) < ls.length := by have h := of_decide_eq_false hc1; omega
      refine AWp.skip ?_
      refine AWp.seq ?_
      refine AWp.region ?_
      refine AList.c 22 rfl rfl rfl (OpJ.move rfl rfl) ?_
      refine AList.c 23 rfl rfl rfl (OpJ.callP (rall_ok ls hb hs) rfl rfl rfl rfl rf51) ?_
      refine AList.c 24 rfl rfl rfl (OpJ.move rfl rfl) ?_
      refine AList.g 25 24 rfl rfl rfl rfl rfl rfl rfl [(2, _)] (fun h => And.intro (.inl rfl) (trivial)) (fun h => (OpJ.move rfl rfl)) ?_
      refine AList.g 26 24 rfl rfl rfl rfl rfl rfl rfl [(25, _)] (fun h => And.intro (.inr ⟨_, rfl, h⟩) (trivial)) (fun h => (OpJ.lenSlice rfl rfl sl34 rfl)) ?_
      refine AList.g 27 24 rfl rfl rfl rfl rfl rfl rfl [(1, _)] (fun h => And.intro (.inl rfl) (trivial)) (fun h => (OpJ.move rfl rfl)) ?_
      refine AList.g 28 24 rfl rfl rfl rfl rfl rfl rfl [(27, _)] (fun h => And.intro (.inr ⟨_, rfl, h⟩) (trivial)) (fun h => (OpJ.lenSlice rfl rfl sl39 rfl)) ?_
      refine AList.g 29 24 rfl rfl rfl rfl rfl rfl rfl [(26, _), (28, _)] (fun h => And.intro (.inr ⟨_, rfl, h⟩) (And.intro (.inr ⟨_, rfl, h⟩) (trivial))) (fun h => (OpJ.eql rfl rfl rfl)) ?_
      refine AList.c 30 rfl rfl rfl (OpJ.and_ rfl rfl rfl ?_) ?_
      · first | (intro h; rw [h]; rfl) | (intro h; simp_all)
      refine AList.c 31 rfl rfl rfl (OpJ.move rfl rfl) ?_
      refine AList.g 32 31 rfl rfl rfl rfl rfl rfl rfl [(3, _)] (fun h => And.intro (.inl rfl) (trivial)) (fun h => (OpJ.move rfl rfl)) ?_
      refine AList.g 33 31 rfl rfl rfl rfl rfl rfl rfl [(32, _)] (fun h => And.intro (.inr ⟨_, rfl, h⟩) (trivial)) (fun h => (OpJ.callP (in_ok _ _ _) rfl rfl rfl rfl rf52)) ?_
      refine AList.c 34 rfl rfl rfl (OpJ.and_ rfl rfl rfl ?_) ?_
      · first | (intro h; rw [h]; rfl) | (intro h; simp_all)
      refine AList.c 11 rfl rfl rfl (OpJ.assign rfl rfl) ?_
      refine AList.nil ?_
      refine AWp.seq ?_
      refine AWp.seq ?_
      refine AWp.region ?_
      refine AList.c 12 rfl rfl rfl (OpJ.assign rfl rfl) ?_
      refine AList.nil ?_
      refine AWp.block ?_
      refine AWp.loopKL [0, 1, 2, 3, 13, 14, 15, 49, 50, 51, 52, 53, 54, 55, 56, 57, 58, 59, 60, 61, 62, 63, 64, 65, 66, 67, 68, 69, 70, 71, 72, 73, 74, 75, 76, 77, 78, 79, 80, 81, 82, 83, 84, 85, 86, 87, 88, 89, 90, 91, 92, 93, 94, 95, 96] (fun g => [(12, .p (.int .i64 ((g : Nat) : Int))), (11, .p (.bool ((ls.all ldB && decide ((nms.length : Int) = (ls.length : Int)) && inB gap 0 200 && (nms.take g).all fun n => inB n 0 7))))]) (fun g => g ≤ nms.length) (fun g => nms.length - g) 0 (Nat.zero_le _) (Sub.cons rfl (Sub.cons (by rw [List.take_zero, List.all_nil, Bool.and_true]; rfl) Sub.nil)) (fun i hg => ?_)
      refine AWp.seq ?_
      refine AWp.seq ?_
      refine AWp.region ?_
      refine AList.c 35 rfl rfl rfl (OpJ.move rfl rfl) ?_
      refine AList.c 36 rfl rfl rfl (OpJ.move rfl rfl) ?_
      refine AList.c 37 rfl rfl rfl (OpJ.lenSlice rfl rfl sl34 rfl) ?_
      refine AList.c 38 rfl rfl rfl (OpJ.lss rfl rfl rfl) ?_
      refine AList.nil ?_
      refine AWp.cond _ rfl (fun hc2 => ?_) (fun hc2 => ?_)
      · skip
        have hk0 : i < nms.length := by have h := of_decide_eq_true hc2; omega
        refine AWp.skip ?_
        refine AWp.seq ?_
        refine AWp.block ?_
        refine AWp.region ?_
        refine AList.c 41 rfl rfl rfl (OpJ.move rfl rfl) ?_
        refine AList.c 42 rfl rfl rfl (OpJ.move rfl rfl) ?_
        refine AList.g 43 42 rfl rfl rfl rfl rfl rfl rfl [(2, _)] (fun h => And.intro (.inl rfl) (trivial)) (fun h => (OpJ.move rfl rfl)) ?_
        refine AList.g 44 42 rfl rfl rfl rfl rfl rfl rfl [(12, _)] (fun h => And.intro (.inl rfl) (trivial)) (fun h => (OpJ.move rfl rfl)) ?_
        refine AList.g 45 42 rfl rfl rfl rfl rfl rfl rfl [(43, _), (44, _)] (fun h => And.intro (.inr ⟨_, rfl, h⟩) (And.intro (.inr ⟨_, rfl, h⟩) (trivial))) (fun h => (OpJ.indexG (g := nt nms) (fun _ h => nt_get h) rfl rfl rfl sl34 el34 rfl (fun _ => rfl) (by decide) hk0)) ?_
        refine AList.g 46 42 rfl rfl rfl rfl rfl rfl rfl [(45, _)] (fun h => And.intro (.inr ⟨_, rfl, h⟩) (trivial)) (fun h => (OpJ.load rfl rfl ty3 rfl)) ?_
        refine AList.g 47 42 rfl rfl rfl rfl rfl rfl rfl [(46, _)] (fun h => And.intro (.inr ⟨_, rfl, h⟩) (trivial)) (fun h => (OpJ.callP (in_ok _ _ _) rfl rfl rfl rfl rf52)) ?_
        refine AList.c 48 rfl rfl rfl (OpJ.and_ rfl rfl rfl ?_) ?_
        · first | (intro h; rw [h]; rfl) | (intro h; simp_all)
        refine AList.c 11 rfl rfl rfl (OpJ.assign rfl rfl) ?_
        refine AList.nil ?_
        refine AWp.region ?_
        refine AList.c 39 rfl rfl rfl (OpJ.move rfl rfl) ?_
        refine AList.c 40 rfl rfl rfl (OpJ.add rfl rfl rfl (i64ok ?_)) ?_
        · omega
        refine AList.c 12 rfl rfl rfl (OpJ.assign rfl rfl) ?_
        refine AList.nil ?_
        refine ⟨i + 1, ?_, ?_, ?_⟩
        · omega
        · omega
        refine To.done [] rfl (Sub.cons rfl (Sub.cons (by rw [List.take_succ_eq_append_getElem hk0, List.all_append, nt_get hk0, List.all_cons, List.all_nil, Bool.and_true, ← Bool.and_assoc]; rfl) (by repeat (first | exact Sub.nil | refine Sub.cons rfl ?_)))) rfl
      · skip
        obtain rfl : i = nms.length := by have h := of_decide_eq_false hc2; omega
        have eV : ((ls.all ldB && decide ((nms.length : Int) = (ls.length : Int)) && inB gap 0 200 && (nms.take nms.length).all fun n => inB n 0 7)) = (ls.all ldB && (ordV ls nms gap)) := by rw [List.take_length]; unfold ordV; rw [decide_eq_decide.2 (show (nms.length : Int) = (ls.length : Int) ↔ nms.length = ls.length by omega), Bool.and_assoc, Bool.and_assoc, Bool.and_assoc]
        rw [eV]
        refine AWp.exit ?_
        refine AWp.seq ?_
        refine AWp.seq ?_
        refine AWp.region ?_
        refine AList.c 49 rfl rfl rfl (OpJ.move rfl rfl) ?_
        refine AList.c 50 rfl rfl rfl (OpJ.not_ rfl rfl) ?_
        refine AList.nil ?_
        refine AWp.cond _ rfl (fun hc3 => ?_) (fun hc3 => ?_)
        · skip
          have hV : (ls.all ldB && (ordV ls nms gap)) = false := bnT hc3
          refine AWp.seq ?_
          refine AWp.region ?_
          refine AList.c 8 rfl rfl rfl (OpJ.assign rfl rfl) ?_
          refine AList.c 9 rfl rfl rfl (OpJ.assign rfl rfl) ?_
          refine AList.c 10 rfl rfl rfl (OpJ.assign rfl rfl) ?_
          refine AList.nil ?_
          refine AWp.ret ?_
          have eE : openE c ls 10 (ordV ls nms gap) = 2 := by rw [openE_eq]; rw [if_pos hC, if_neg hm, if_neg (by rw [hV]; decide)]
          have eR : ordR c ls nms gap = (0, 0, 2) := by unfold ordR; rw [if_neg (by rw [eE]; decide), eE]
          rw [eR]
          exact Fin.many (xs := [.int .i64 0, .int .i64 0, .int .i64 2]) rfl (⟨_, _, rfl, rfl, ⟨_, _, rfl, rfl, ⟨_, _, rfl, rfl, rfl⟩⟩⟩) rfl
        · skip
          have hV : (ls.all ldB && (ordV ls nms gap)) = true := bnF hc3
          have hV2 := Bool.and_eq_true_iff.1 hV
          have hL : ∀ x ∈ ls, OkL x := fun x hx => (ldB_iff x).1 (List.all_eq_true.1 hV2.1 x hx)
          have hOV := ordV_true hV2.2
          refine AWp.skip ?_
          refine AWp.seq ?_
          refine AWp.region ?_
          refine AList.c 52 rfl rfl rfl (OpJ.move rfl rfl) ?_
          refine AList.c 53 rfl rfl rfl (OpJ.move rfl rfl) ?_
          refine AList.c 54 rfl rfl rfl (OpJ.callP (spans_ok c ls hC hL (by omega)) rfl rfl rfl rfl rf53) ?_
          refine AList.c 51 rfl rfl rfl (OpJ.move rfl rfl) ?_
          refine AList.c 55 rfl rfl rfl (OpJ.extract rfl rfl rfl) ?_
          refine AList.c 56 rfl rfl rfl (OpJ.extract rfl rfl rfl) ?_
          refine AList.c 13 rfl rfl rfl (OpJ.assign rfl rfl) ?_
          refine AList.c 11 rfl rfl rfl (OpJ.assign rfl rfl) ?_
          refine AList.nil ?_
          refine AWp.seq ?_
          refine AWp.seq ?_
          refine AWp.region ?_
          refine AList.c 57 rfl rfl rfl (OpJ.move rfl rfl) ?_
          refine AList.c 58 rfl rfl rfl (OpJ.not_ rfl rfl) ?_
          refine AList.nil ?_
          refine AWp.cond _ rfl (fun hc4 => ?_) (fun hc4 => ?_)
          · skip
            have hB : ls.all (blkB c) = false := bnT hc4
            refine AWp.seq ?_
            refine AWp.region ?_
            refine AList.c 8 rfl rfl rfl (OpJ.assign rfl rfl) ?_
            refine AList.c 9 rfl rfl rfl (OpJ.assign rfl rfl) ?_
            refine AList.c 10 rfl rfl rfl (OpJ.assign rfl rfl) ?_
            refine AList.nil ?_
            refine AWp.ret ?_
            have eE : openE c ls 10 (ordV ls nms gap) = 6 := by rw [openE_eq]; rw [if_pos hC, if_neg hm, if_pos hV, if_neg (by rw [hB]; decide)]
            have eR : ordR c ls nms gap = (0, 0, 6) := by unfold ordR; rw [if_neg (by rw [eE]; decide), eE]
            rw [eR]
            exact Fin.many (xs := [.int .i64 0, .int .i64 0, .int .i64 6]) rfl (⟨_, _, rfl, rfl, ⟨_, _, rfl, rfl, ⟨_, _, rfl, rfl, rfl⟩⟩⟩) rfl
          · skip
            have hB : ls.all (blkB c) = true := bnF hc4
            rw [if_pos hB]
            have eE : openE c ls 10 (ordV ls nms gap) = 0 := by rw [openE_eq]; rw [if_pos hC, if_neg hm, if_pos hV, if_pos hB]
            refine AWp.skip ?_
            refine AWp.seq ?_
            refine AWp.seq ?_
            refine AWp.region ?_
            refine AList.c 14 rfl rfl rfl (OpJ.assign rfl rfl) ?_
            refine AList.nil ?_
            refine AWp.block ?_
            refine AWp.loopKL [1, 2, 3, 13] (fun g => [(14, .p (.int .i64 ((g : Nat) : Int)))]) (fun g => g ≤ ls.length ∧ fstN (wrongJ c ls nms gap) (g * ls.length) = none) (fun g => ls.length - g) 0 ⟨Nat.zero_le _, by rw [Nat.zero_mul]; rfl⟩ (Sub.cons rfl (Sub.nil)) (fun i hg => ?_)
            obtain ⟨hg1, hg2⟩ := hg
            refine AWp.seq ?_
            refine AWp.seq ?_
            refine AWp.region ?_
            refine AList.c 59 rfl rfl rfl (OpJ.move rfl rfl) ?_
            refine AList.c 60 rfl rfl rfl (OpJ.move rfl rfl) ?_
            refine AList.c 61 rfl rfl rfl (OpJ.lenSlice rfl rfl sl39 rfl) ?_
            refine AList.c 62 rfl rfl rfl (OpJ.lss rfl rfl rfl) ?_
            refine AList.nil ?_
            refine AWp.cond _ rfl (fun hc5 => ?_) (fun hc5 => ?_)
            · skip
              have hi0 : i < ls.length := by have h := of_decide_eq_true hc5; omega
              refine AWp.skip ?_
              refine AWp.seq ?_
              refine AWp.block ?_
              refine AWp.seq ?_
              refine AWp.region ?_
              refine AList.c 15 rfl rfl rfl (OpJ.assign rfl rfl) ?_
              refine AList.nil ?_
              refine AWp.block ?_
              refine AWp.loopKL [1, 2, 3, 13, 14, 59, 60, 61, 62, 63, 64] (fun g => [(15, .p (.int .i64 ((g : Nat) : Int)))]) (fun g => g ≤ ls.length ∧ fstN (wrongJ c ls nms gap) (i * ls.length + g) = none) (fun g => ls.length - g) 0 ⟨Nat.zero_le _, hg2⟩ (Sub.cons rfl (Sub.nil)) (fun k hh => ?_)
              obtain ⟨hh1, hh2⟩ := hh
              refine AWp.seq ?_
              refine AWp.seq ?_
              refine AWp.region ?_
              refine AList.c 65 rfl rfl rfl (OpJ.move rfl rfl) ?_
              refine AList.c 66 rfl rfl rfl (OpJ.move rfl rfl) ?_
              refine AList.c 67 rfl rfl rfl (OpJ.lenSlice rfl rfl sl39 rfl) ?_
              refine AList.c 68 rfl rfl rfl (OpJ.lss rfl rfl rfl) ?_
              refine AList.nil ?_
              refine AWp.cond _ rfl (fun hc6 => ?_) (fun hc6 => ?_)
              · skip
                have hk0 : k < ls.length := by have h := of_decide_eq_true hc6; omega
                have hw := wrongJ_at c ls nms gap (i := i) hk0
                have hxb := (openE_zero.1 eE).ob _ (ld_mem hi0)
                have hmB := meets_B (srcs c (ld ls i))
                rw [show meets (srcs c (ld ls i)) = blk c (ld ls i) from rfl] at hmB
                refine AWp.skip ?_
                refine AWp.seq ?_
                refine AWp.block ?_
                refine AWp.seq ?_
                refine AWp.regionDraw 24 mixed (by kernel_rfl) (by decide) ?_
                refine AQuiet.cons 71 rfl rfl rfl (OpJ.move rfl rfl) ?_
                refine AQuiet.cons 72 rfl rfl rfl (OpJ.move rfl rfl) ?_
                refine AQuiet.cons 73 rfl rfl rfl (OpJ.indexG (g := nt nms) (fun _ h => nt_get h) rfl rfl rfl sl34 el34 rfl (fun _ => rfl) (by decide) (by omega)) ?_
                refine AQuiet.cons 74 rfl rfl rfl (OpJ.load rfl rfl ty3 rfl) ?_
                refine AQuiet.cons 75 rfl rfl rfl (OpJ.move rfl rfl) ?_
                refine AQuiet.cons 76 rfl rfl rfl (OpJ.move rfl rfl) ?_
                refine AQuiet.cons 77 rfl rfl rfl (OpJ.indexG (g := nt nms) (fun _ h => nt_get h) rfl rfl rfl sl34 el34 rfl (fun _ => rfl) (by decide) (by omega)) ?_
                refine AQuiet.cons 78 rfl rfl rfl (OpJ.load rfl rfl ty3 rfl) ?_
                refine AQuiet.cons 79 rfl rfl rfl (OpJ.lss rfl rfl rfl) ?_
                refine AQuiet.cons 80 rfl rfl rfl (OpJ.move rfl rfl) ?_
                refine AQuiet.guard 81 80 rfl rfl rfl rfl rfl rfl rfl [(13, _)] (fun h => And.intro (.inl rfl) (trivial)) (fun h => (OpJ.move rfl rfl)) ?_
                refine AQuiet.guard 82 80 rfl rfl rfl rfl rfl rfl rfl [(14, _)] (fun h => And.intro (.inl rfl) (trivial)) (fun h => (OpJ.move rfl rfl)) ?_
                refine AQuiet.guard 83 80 rfl rfl rfl rfl rfl rfl rfl [(81, _), (82, _)] (fun h => And.intro (.inr ⟨_, rfl, h⟩) (And.intro (.inr ⟨_, rfl, h⟩) (trivial))) (fun h => (OpJ.indexG (g := (fun i => blk c (ld ls i))) (blk_get c ls) rfl rfl rfl sl57 el57 rfl (fun _ => rfl) (by decide) (by rw [List.length_map]; exact hi0))) ?_
                refine AQuiet.guard 84 80 rfl rfl rfl rfl rfl rfl rfl [(83, _)] (fun h => And.intro (.inr ⟨_, rfl, h⟩) (trivial)) (fun h => (OpJ.fieldAddr rfl rfl fd25_1 rfl)) ?_
                refine AQuiet.guard 85 80 rfl rfl rfl rfl rfl rfl rfl [(84, _)] (fun h => And.intro (.inr ⟨_, rfl, h⟩) (trivial)) (fun h => (OpJ.load rfl rfl ty3 rfl)) ?_
                refine AQuiet.guard 86 80 rfl rfl rfl rfl rfl rfl rfl [(3, _)] (fun h => And.intro (.inl rfl) (trivial)) (fun h => (OpJ.move rfl rfl)) ?_
                refine AQuiet.guard 87 80 rfl rfl rfl rfl rfl rfl rfl [(85, _), (86, _)] (fun h => And.intro (.inr ⟨_, rfl, h⟩) (And.intro (.inr ⟨_, rfl, h⟩) (trivial))) (fun h => (OpJ.add rfl rfl rfl (i64ok (by show _ ≤ (blk c (ld ls i)).2 + gap ∧ (blk c (ld ls i)).2 + gap ≤ _; omega)))) ?_
                refine AQuiet.guard 88 80 rfl rfl rfl rfl rfl rfl rfl [(13, _)] (fun h => And.intro (.inl rfl) (trivial)) (fun h => (OpJ.move rfl rfl)) ?_
                refine AQuiet.guard 89 80 rfl rfl rfl rfl rfl rfl rfl [(15, _)] (fun h => And.intro (.inl rfl) (trivial)) (fun h => (OpJ.move rfl rfl)) ?_
                refine AQuiet.guard 90 80 rfl rfl rfl rfl rfl rfl rfl [(88, _), (89, _)] (fun h => And.intro (.inr ⟨_, rfl, h⟩) (And.intro (.inr ⟨_, rfl, h⟩) (trivial))) (fun h => (OpJ.indexG (g := (fun i => blk c (ld ls i))) (blk_get c ls) rfl rfl rfl sl57 el57 rfl (fun _ => rfl) (by decide) (by rw [List.length_map]; exact hk0))) ?_
                refine AQuiet.guard 91 80 rfl rfl rfl rfl rfl rfl rfl [(90, _)] (fun h => And.intro (.inr ⟨_, rfl, h⟩) (trivial)) (fun h => (OpJ.fieldAddr rfl rfl fd25_0 rfl)) ?_
                refine AQuiet.guard 92 80 rfl rfl rfl rfl rfl rfl rfl [(91, _)] (fun h => And.intro (.inr ⟨_, rfl, h⟩) (trivial)) (fun h => (OpJ.load rfl rfl ty3 rfl)) ?_
                refine AQuiet.guard 93 80 rfl rfl rfl rfl rfl rfl rfl [(87, _), (92, _)] (fun h => And.intro (.inr ⟨_, rfl, h⟩) (And.intro (.inr ⟨_, rfl, h⟩) (trivial))) (fun h => (OpJ.gtr rfl rfl rfl)) ?_
                refine AQuiet.cons 94 rfl rfl rfl (OpJ.and_ rfl rfl rfl ?_) ?_
                · first | (intro h; rw [h]; rfl) | (intro h; simp_all)
                refine AQuiet.nil ?_
                refine AList.nil ?_
                refine AWp.cond _ rfl (fun hc7 => ?_) (fun hc7 => ?_)
                · skip
                  have hq : wrongB c ls nms gap i k = true := hc7
                  refine AWp.seq ?_
                  refine AWp.region ?_
                  refine AList.c 95 rfl rfl rfl (OpJ.move rfl rfl) ?_
                  refine AList.c 96 rfl rfl rfl (OpJ.move rfl rfl) ?_
                  refine AList.c 8 rfl rfl rfl (OpJ.assign rfl rfl) ?_
                  refine AList.c 9 rfl rfl rfl (OpJ.assign rfl rfl) ?_
                  refine AList.c 10 rfl rfl rfl (OpJ.assign rfl rfl) ?_
                  refine AList.nil ?_
                  refine AWp.ret ?_
                  have hlt : i * ls.length + k < ls.length * ls.length := by
                    have := Nat.mul_le_mul_right ls.length (show i + 1 ≤ ls.length by omega)
                    rw [Nat.succ_mul] at this
                    omega
                  have hf : fstN (wrongJ c ls nms gap) (ls.length * ls.length) = some (i * ls.length + k) := fstN_some (fstN_at hh2 (by rw [hw.1]; exact hq)) (by omega)
                  have eR : ordR c ls nms gap = (((i : Nat) : Int), ((k : Nat) : Int), 0) := by unfold ordR; rw [if_pos eE, hf]; show ((((i * ls.length + k) / ls.length : Nat) : Int), _, _) = _; rw [hw.2.1, hw.2.2]
                  rw [eR]
                  exact Fin.many (xs := [.int .i64 ((i : Nat) : Int), .int .i64 ((k : Nat) : Int), .int .i64 0]) rfl (⟨_, _, rfl, rfl, ⟨_, _, rfl, rfl, ⟨_, _, rfl, rfl, rfl⟩⟩⟩) rfl
                · skip
                  have hq : wrongB c ls nms gap i k = false := hc7
                  refine AWp.skip ?_
                  refine AWp.region ?_
                  refine AList.c 69 rfl rfl rfl (OpJ.move rfl rfl) ?_
                  refine AList.c 70 rfl rfl rfl (OpJ.add rfl rfl rfl (i64ok ?_)) ?_
                  · omega
                  refine AList.c 15 rfl rfl rfl (OpJ.assign rfl rfl) ?_
                  refine AList.nil ?_
                  refine ⟨k + 1, ?_, ?_, ?_⟩
                  · exact ⟨by omega, by rw [show i * ls.length + (k + 1) = (i * ls.length + k) + 1 by omega, fstN_none hh2, hw.1, hq]; rfl⟩
                  · omega
                  exact To.done [] rfl (by repeat (first | exact Sub.nil | refine Sub.cons rfl ?_)) rfl
              · skip
                obtain rfl : k = ls.length := by have h := of_decide_eq_false hc6; omega
                refine AWp.exit ?_
                refine AWp.region ?_
                refine AList.c 63 rfl rfl rfl (OpJ.move rfl rfl) ?_
                refine AList.c 64 rfl rfl rfl (OpJ.add rfl rfl rfl (i64ok ?_)) ?_
                · omega
                refine AList.c 14 rfl rfl rfl (OpJ.assign rfl rfl) ?_
                refine AList.nil ?_
                refine ⟨i + 1, ?_, ?_, ?_⟩
                · exact ⟨by omega, by rw [Nat.succ_mul]; exact hh2⟩
                · omega
                exact To.done [] rfl (by repeat (first | exact Sub.nil | refine Sub.cons rfl ?_)) rfl
            · skip
              obtain rfl : i = ls.length := by have h := of_decide_eq_false hc5; omega
              refine AWp.exit ?_
              refine AWp.seq ?_
              refine AWp.region ?_
              refine AList.c 8 rfl rfl rfl (OpJ.assign rfl rfl) ?_
              refine AList.c 9 rfl rfl rfl (OpJ.assign rfl rfl) ?_
              refine AList.c 10 rfl rfl rfl (OpJ.assign rfl rfl) ?_
              refine AList.nil ?_
              refine AWp.ret ?_
              have eR : ordR c ls nms gap = (0, 0, 4) := by unfold ordR; rw [if_pos eE, hg2]
              rw [eR]
              exact Fin.many (xs := [.int .i64 0, .int .i64 0, .int .i64 4]) rfl (⟨_, _, rfl, rfl, ⟨_, _, rfl, rfl, ⟨_, _, rfl, rfl, rfl⟩⟩⟩) rfl
end Go.Proofs.Ythiapodcippnoaa
