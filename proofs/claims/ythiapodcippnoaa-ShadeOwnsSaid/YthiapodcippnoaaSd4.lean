/-
  Leads that are looked at; Black and Has in both texts.
-/
import Derived.Test.YthiapodcippnoaaSd3
set_option linter.unusedVariables false
set_option maxRecDepth 100000
set_option maxHeartbeats 4000000
set_option linter.unusedSimpArgs false
namespace Go.Proofs.Ythiapodcippnoaa
open Go.AF
theorem open_ok (c : List Tnt) (ls : List Lds) (most : Int) (valid : Bool) (hmo : most ≤ 100) (hcb : c.length ≤ bigN) (hb : ls.length ≤ bigN) (hs : ∀ x ∈ ls, x.st.length ≤ bigN) : Pure Try.prog 38 [curV c, ldsV ls, .int .i64 most, .bool valid] (.tuple [bchV (openL c ls most valid), .int .i64 (openE c ls most valid)]) := by
  have hb2 := hb
  unfold bigN at hb2
  refine Pure.start (N := 53) Try.func38 rfl rfl (Nat.le_of_ble_eq_true rfl) ?_
  refine AWp.seq ?_
  refine AWp.region ?_
  refine AList.c 8 rfl rfl rfl (OpJ.assign rfl rfl) ?_
  refine AList.c 9 rfl rfl rfl (OpJ.assign rfl rfl) ?_
  refine AList.nil ?_
  refine AWp.seq ?_
  refine AWp.block ?_
  refine AWp.seq ?_
  refine AWp.region ?_
  refine AList.c 14 rfl rfl rfl (OpJ.move rfl rfl) ?_
  refine AList.c 15 rfl rfl rfl (OpJ.callP (isCurve_ok c hcb) rfl rfl rfl rfl rf42) ?_
  refine AList.c 16 rfl rfl rfl (OpJ.not_ rfl rfl) ?_
  refine AList.c 13 rfl rfl rfl (OpJ.assign rfl rfl) ?_
  refine AList.nil ?_
  refine AWp.cond _ rfl (fun hc0 => ?_) (fun hc0 => ?_)
  · skip
    have hC : ¬ okC c := by simpa using hc0
    refine AWp.seq ?_
    refine AWp.region ?_
    refine AList.c 8 rfl rfl rfl (OpJ.assign rfl rfl) ?_
    refine AList.c 9 rfl rfl rfl (OpJ.assign rfl rfl) ?_
    refine AList.nil ?_
    refine AWp.to (To.nilIs 8 rfl) ?_
    refine AWp.ret ?_
    have e : openE c ls most valid = 1 := by unfold openE; rw [if_pos hC]
    have e2 : openL c ls most valid = [] := by unfold openL; rw [e]; rfl
    rw [e2, e]
    exact Fin.many (xs := [bchV [], .int .i64 1]) rfl (⟨_, _, rfl, rfl, ⟨_, _, rfl, rfl, rfl⟩⟩) rfl
  · skip
    have hC : okC c := by simpa using hc0
    refine AWp.seq ?_
    refine AWp.region ?_
    refine AList.c 18 rfl rfl rfl (OpJ.move rfl rfl) ?_
    refine AList.c 19 rfl rfl rfl (OpJ.lenSlice rfl rfl sl39 rfl) ?_
    refine AList.c 20 rfl rfl rfl (OpJ.move rfl rfl) ?_
    refine AList.c 21 rfl rfl rfl (OpJ.gtr rfl rfl rfl) ?_
    refine AList.c 17 rfl rfl rfl (OpJ.assign rfl rfl) ?_
    refine AList.nil ?_
    refine AWp.cond _ rfl (fun hc1 => ?_) (fun hc1 => ?_)
    · skip
      have hm : most < ls.length := by have h := of_decide_eq_true hc1; omega
      refine AWp.seq ?_
      refine AWp.region ?_
      refine AList.c 8 rfl rfl rfl (OpJ.assign rfl rfl) ?_
      refine AList.c 9 rfl rfl rfl (OpJ.assign rfl rfl) ?_
      refine AList.nil ?_
      refine AWp.to (To.nilIs 8 rfl) ?_
      refine AWp.ret ?_
      have e : openE c ls most valid = 3 := by unfold openE; rw [if_neg (fun k => k hC), if_pos hm]
      have e2 : openL c ls most valid = [] := by unfold openL; rw [e]; rfl
      rw [e2, e]
      exact Fin.many (xs := [bchV [], .int .i64 3]) rfl (⟨_, _, rfl, rfl, ⟨_, _, rfl, rfl, rfl⟩⟩) rfl
    · skip
      have hm : ¬ most < ls.length := by have h := of_decide_eq_false hc1; omega
      refine AWp.seq ?_
      refine AWp.region ?_
      refine AList.c 23 rfl rfl rfl (OpJ.move rfl rfl) ?_
      refine AList.c 24 rfl rfl rfl (OpJ.not_ rfl rfl) ?_
      refine AList.c 25 rfl rfl rfl (OpJ.move rfl rfl) ?_
      refine AList.g 26 25 rfl rfl rfl rfl rfl rfl rfl [(1, _)] (fun h => And.intro (.inl rfl) (trivial)) (fun h => (OpJ.move rfl rfl)) ?_
      refine AList.g 27 25 rfl rfl rfl rfl rfl rfl rfl [(26, _)] (fun h => And.intro (.inr ⟨_, rfl, h⟩) (trivial)) (fun h => (OpJ.callP (containsFL_ok ls _ (fun l => !ldB l) hb (fun x hx => ⟨67, [ldV x], rfl, rf67, isBad_ok x (hs x hx)⟩)) rfl rfl rfl rfl rf66)) ?_
      refine AList.c 28 rfl rfl rfl (OpJ.or_ rfl rfl rfl ?_) ?_
      · first | (intro h; rw [h]; rfl) | (intro h; simp_all)
      refine AList.c 22 rfl rfl rfl (OpJ.assign rfl rfl) ?_
      refine AList.nil ?_
      refine AWp.cond _ rfl (fun hc2 => ?_) (fun hc2 => ?_)
      · skip
        refine AWp.seq ?_
        refine AWp.region ?_
        refine AList.c 8 rfl rfl rfl (OpJ.assign rfl rfl) ?_
        refine AList.c 9 rfl rfl rfl (OpJ.assign rfl rfl) ?_
        refine AList.nil ?_
        refine AWp.to (To.nilIs 8 rfl) ?_
        refine AWp.ret ?_
        have e : openE c ls most valid = 2 := by unfold openE; rw [if_neg (fun k => k hC), if_neg hm, if_pos hc2]
        have e2 : openL c ls most valid = [] := by unfold openL; rw [e]; rfl
        rw [e2, e]
        exact Fin.many (xs := [bchV [], .int .i64 2]) rfl (⟨_, _, rfl, rfl, ⟨_, _, rfl, rfl, rfl⟩⟩) rfl
      · skip
        have hL : ∀ l ∈ ls, OkL l := by
          rw [Bool.or_eq_false_iff] at hc2
          exact fun l hl => (ldB_iff l).1 (any_not.1 hc2.2 l hl)
        have hb3 : ls.length ≤ 1000000 := by omega
        refine AWp.skip ?_
        refine AWp.seq ?_
        refine AWp.seq ?_
        refine AWp.region ?_
        refine AList.c 29 rfl rfl rfl (OpJ.move rfl rfl) ?_
        refine AList.c 30 rfl rfl rfl (OpJ.lenSlice rfl rfl sl39 rfl) ?_
        refine AList.c 31 rfl rfl rfl (OpJ.move rfl rfl) ?_
        refine AList.nil ?_
        refine AWp.block ?_
        refine AWp.loopHL [0, 29, 30, 52] (fun g => [(31, .p (.int .i64 ((g : Nat) : Int))), (8, accV 0 g)]) (fun g => [accB ((((ls.take g).map (toB c)).flatMap Bch.cells).map .p) 90 g]) (fun g => g ≤ ls.length ∧ ∀ j, j < g → blkB c (ld ls j) = true) (fun g => ls.length - g) 0 ⟨Nat.zero_le _, fun j hj => absurd hj (by omega)⟩ (To.pad.trans (To.sub (Sub.chk (Sub.cons rfl (Sub.cons rfl Sub.nil))))) (fun i hg => ?_)
        obtain ⟨hg1, hg2⟩ := hg
        refine AWp.seq ?_
        refine AWp.region ?_
        refine AList.c 32 rfl rfl rfl (OpJ.lss rfl rfl rfl) ?_
        refine AList.nil ?_
        refine AWp.seq ?_
        refine AWp.cond _ rfl (fun hc3 => ?_) (fun hc3 => ?_)
        · skip
          have hk0 : i < ls.length := by have h := of_decide_eq_true hc3; omega
          refine AWp.skip ?_
          refine AWp.seq ?_
          refine AWp.block ?_
          refine AWp.seq ?_
          refine AWp.region ?_
          refine AList.c 33 rfl rfl rfl (OpJ.indexG (g := ld ls) (fun _ h => ld_get h) rfl rfl rfl sl39 el39 rfl (fun _ => rfl) (by decide) hk0) ?_
          refine AList.c 34 rfl rfl rfl (OpJ.load (v := .p (ldV (ld ls i))) rfl rfl ty28 rfl) ?_
          refine AList.c 11 rfl rfl rfl (OpJ.allocOwn rfl zr28 rfl) ?_
          refine AList.c0 rfl rfl (OpJ.store (H' := [accB ((((ls.take i).map (toB c)).flatMap Bch.cells).map .p) 90 i, .cells ((ld ls i).cells.map .p) 28]) rfl rfl rfl rfl rfl ty28 rfl rfl) ?_
          refine AList.nil ?_
          refine AWp.seq ?_
          refine AWp.regionDrawC 7 mixed (by kernel_rfl) (by decide) ?_
          refine AQuietC.cons 35 rfl rfl rfl (OpJ.load (v := .p (ldV (ld ls i))) rfl rfl ty28 rfl) (fun _ => (OpJ.load (v := .p (ldV (ld ls i))) rfl rfl ty28 rfl)) ?_
          refine AQuietC.cons 36 rfl rfl rfl (OpJ.move rfl rfl) (fun _ => (OpJ.move rfl rfl)) ?_
          refine AQuietC.cons 37 rfl rfl rfl (OpJ.load (v := .p (ldV (ld ls i))) rfl rfl ty28 rfl) (fun _ => (OpJ.load (v := .p (ldV (ld ls i))) rfl rfl ty28 rfl)) ?_
          refine AQuietC.cons 38 rfl rfl rfl (OpJ.callP (blackOf_ok c (ld ls i) hC (hL _ (ld_mem hk0))) rfl rfl rfl rfl rf68) (fun _ => (OpJ.callP (blackOf_ok c (ld ls i) hC (hL _ (ld_mem hk0))) rfl rfl rfl rfl rf68)) ?_
          refine AQuietC.cons 39 rfl rfl rfl (OpJ.buildR (v := .p (.agg (toB c (ld ls i)).cells)) rfl bd90 rfl rfl rfl) (fun _ => (OpJ.buildR (v := .p (.agg (toB c (ld ls i)).cells)) rfl bd90 rfl rfl rfl)) ?_
          refine AQuietC.lay 12 rfl rfl rfl (OpJ.allocOwn rfl zr90 rfl) ?_
          refine AQuietC.put (blk2 := .cells ((toB c (ld ls i)).cells.map .p) 90) rfl rfl (by decide) (OpJ.store rfl rfl rfl rfl rfl ty90 rfl rfl) rfl ?_
          refine AQuietC.nil ?_
          refine AList.nil ?_
          refine AWp.seq ?_
          refine AWp.seq ?_
          refine AWp.region ?_
          refine AList.c 40 rfl rfl rfl (OpJ.fieldAddr rfl rfl fd90_1 rfl) ?_
          refine AList.c 41 rfl rfl rfl (OpJ.fieldAddr rfl rfl fd25_0 rfl) ?_
          refine AList.c 42 rfl rfl rfl (OpJ.load rfl rfl ty3 rfl) ?_
          refine AList.c 43 rfl rfl rfl (OpJ.fieldAddr rfl rfl fd90_1 rfl) ?_
          refine AList.c 44 rfl rfl rfl (OpJ.fieldAddr rfl rfl fd25_1 rfl) ?_
          refine AList.c 45 rfl rfl rfl (OpJ.load rfl rfl ty3 rfl) ?_
          refine AList.c 46 rfl rfl rfl (OpJ.gtr rfl rfl rfl) ?_
          refine AList.nil ?_
          refine AWp.cond _ rfl (fun hc4 => ?_) (fun hc4 => ?_)
          · skip
            have hB : blkB c (ld ls i) = false := decide_eq_false (by have h : (blk c (ld ls i)).1 > (blk c (ld ls i)).2 := of_decide_eq_true hc4; omega)
            refine AWp.seq ?_
            refine AWp.region ?_
            refine AList.c 8 rfl rfl rfl (OpJ.assign rfl rfl) ?_
            refine AList.c 9 rfl rfl rfl (OpJ.assign rfl rfl) ?_
            refine AList.nil ?_
            refine AWp.to (To.nilIs 8 rfl) ?_
            refine AWp.ret ?_
            have e : openE c ls most valid = 6 := by unfold openE; rw [if_neg (fun k => k hC), if_neg hm, if_neg (by rw [hc2]; decide), if_pos (any_not_at (ld_mem hk0) hB)]
            have e2 : openL c ls most valid = [] := by unfold openL; rw [e]; rfl
            rw [e2, e]
            exact Fin.many (xs := [bchV [], .int .i64 6]) rfl (⟨_, _, rfl, rfl, ⟨_, _, rfl, rfl, rfl⟩⟩) rfl
          · skip
            have hB : blkB c (ld ls i) = true := decide_eq_true (by have h : ¬ (blk c (ld ls i)).1 > (blk c (ld ls i)).2 := of_decide_eq_false hc4; omega)
            refine AWp.skip ?_
            refine AWp.region ?_
            refine AList.c 47 rfl rfl rfl (OpJ.move rfl rfl) ?_
            refine AList.c 48 rfl rfl rfl (OpJ.load (v := .p (.agg (toB c (ld ls i)).cells)) rfl rfl ty90 rfl) ?_
            refine AList.c 49 rfl rfl rfl (OpJ.buildImm rfl slz86 (by decide) rfl rfl rfl) ?_
            refine AList.c 50 rfl rfl rfl (OpJ.appendAcc rfl rfl rfl slz86 sl86 rfl ?_ rfl (by decide) rfl by90 (by decide) ?_) ?_
            · rw [List.length_map, flat_len (c := 13) (fun _ => rfl), List.length_map, List.length_take_of_le hg1]; rfl
            · show (2 * (i + 1) + 192) * 120 ≤ 281474976710656; omega
            refine AList.c 8 rfl rfl rfl (OpJ.assign rfl rfl) ?_
            refine AList.nil ?_
            refine AWp.region ?_
            refine AList.c 51 rfl rfl rfl (OpJ.add rfl rfl rfl (i64ok ?_)) ?_
            · omega
            refine AList.c 31 rfl rfl rfl (OpJ.move rfl rfl) ?_
            refine AList.nil ?_
            refine ⟨i + 1, ?_, ?_, ?_⟩
            · refine ⟨by omega, fun j hj => ?_⟩
              rcases Nat.lt_succ_iff_lt_or_eq.1 hj with h1 | rfl
              · exact hg2 j h1
              · exact hB
            · omega
            refine To.done [3] rfl (by repeat (first | exact Sub.nil | refine Sub.cons rfl ?_)) ?_
            show [Blk.row (renL _ (_ ++ _)) _] = [Blk.row _ _]
            rw [renL_app, renL_pure, List.take_succ_eq_append_getElem hk0, List.map_append, List.flatMap_append, List.map_append, ld_get hk0]
            rfl
        · skip
          obtain rfl : i = ls.length := by have h := of_decide_eq_false hc3; omega
          refine AWp.exit ?_
          refine AWp.seq ?_
          refine AWp.region ?_
          refine AList.c 52 rfl rfl rfl (OpJ.move rfl rfl) ?_
          refine AList.c 8 rfl rfl rfl (OpJ.assign rfl rfl) ?_
          refine AList.c 9 rfl rfl rfl (OpJ.assign rfl rfl) ?_
          refine AList.nil ?_
          refine AWp.to (To.accD 8 0 ls.length rfl rfl (fun h => by rw [h]; rfl)) ?_
          refine AWp.ret ?_
          have e : openE c ls most valid = 0 := by unfold openE; rw [if_neg (fun k => k hC), if_neg hm, if_neg (by rw [hc2]; decide), if_neg (by rw [any_not.2 (fun x hx => by obtain ⟨j, hj, rfl⟩ := List.getElem_of_mem hx; rw [ld_get hj]; exact hg2 j hj)]; decide)]
          have e2 : openL c ls most valid = (ls.take ls.length).map (toB c) := by unfold openL; rw [e, if_pos rfl, List.take_length]
          rw [e2, e]
          unfold bchV
          rw [List.length_map, List.length_take_of_le (Nat.le_refl _)]
          exact Fin.many (xs := [.is (((ls.take ls.length).map (toB c)).flatMap Bch.cells) ls.length, .int .i64 0]) rfl (⟨_, _, rfl, rfl, ⟨_, _, rfl, rfl, rfl⟩⟩) rfl
theorem black_R (c : List Tnt) (l : Lds) (hcb : c.length ≤ bigN) (hs : l.st.length ≤ bigN) : Pure Try.prog 15 [curV c, ldV l] (.tuple [spV (blackR c l).1, .int .i64 (blackR c l).2]) := by
  refine Pure.start (N := 23) Try.func15 rfl rfl (Nat.le_of_ble_eq_true rfl) ?_
  refine AWp.seq ?_
  refine AWp.region ?_
  refine AList.c 3 rfl rfl rfl (OpJ.boxImm rfl rfl rfl) ?_
  refine AList.c 4 rfl rfl rfl (OpJ.allocOwn rfl zr25 rfl) ?_
  refine AList.c 5 rfl rfl rfl (OpJ.assign rfl rfl) ?_
  refine AList.nil ?_
  refine AWp.seq ?_
  refine AWp.region ?_
  refine AList.c 9 rfl rfl rfl (OpJ.move rfl rfl) ?_
  refine AList.c 10 rfl rfl rfl (OpJ.load rfl rfl ty28 rfl) ?_
  refine AList.c 11 rfl rfl rfl (OpJ.buildImm rfl slz39 (by decide) rfl rfl rfl) ?_
  refine AList.c 12 rfl rfl rfl (OpJ.callP (open_ok c [l] 1 true (by omega) hcb (by unfold bigN; show 1 ≤ _; omega) (fun x hx => by simp at hx; subst hx; exact hs)) rfl rfl rfl rfl rf38) ?_
  refine AList.c 8 rfl rfl rfl (OpJ.move rfl rfl) ?_
  refine AList.c 13 rfl rfl rfl (OpJ.extract rfl rfl rfl) ?_
  refine AList.c 14 rfl rfl rfl (OpJ.extract rfl rfl rfl) ?_
  refine AList.c 6 rfl rfl rfl (OpJ.assign rfl rfl) ?_
  refine AList.c 7 rfl rfl rfl (OpJ.assign rfl rfl) ?_
  refine AList.nil ?_
  refine AWp.seq ?_
  refine AWp.seq ?_
  refine AWp.region ?_
  refine AList.c 15 rfl rfl rfl (OpJ.move rfl rfl) ?_
  refine AList.c 16 rfl rfl rfl (OpJ.neq rfl rfl rfl) ?_
  refine AList.nil ?_
  refine AWp.cond _ rfl (fun hc0 => ?_) (fun hc0 => ?_)
  · skip
    have e : openE c [l] 1 true ≠ 0 := by simpa using hc0
    refine AWp.seq ?_
    refine AWp.region ?_
    refine AList.c 17 rfl rfl rfl (OpJ.build rfl bd25 rfl rfl) ?_
    refine AList.c 18 rfl rfl rfl (OpJ.move rfl rfl) ?_
    refine AList.c0 rfl rfl (OpJ.store rfl rfl rfl rfl rfl ty25 rfl rfl) ?_
    refine AList.c 5 rfl rfl rfl (OpJ.assign rfl rfl) ?_
    refine AList.nil ?_
    refine AWp.ret ?_
    have eR : blackR c l = ((0, 0), openE c [l] 1 true) := by unfold blackR; rw [if_neg e]
    rw [eR]
    exact Fin.many (xs := [spV (0, 0), .int .i64 (openE c [l] 1 true)]) rfl (⟨_, _, rfl, ⟨_, _, _, rfl, ty25, rfl⟩, ⟨_, _, rfl, rfl, rfl⟩⟩) rfl
  · skip
    have e : openE c [l] 1 true = 0 := by simpa using hc0
    rw [openL_one e]
    refine AWp.skip ?_
    refine AWp.seq ?_
    refine AWp.region ?_
    refine AList.c 19 rfl rfl rfl (OpJ.move rfl rfl) ?_
    refine AList.c 20 rfl rfl rfl (OpJ.indexG (g := bc [toB c l]) (k := 0) (fun _ h => bc_get h) rfl rfl rfl sl86 el86 rfl (fun _ => rfl) (by decide) (Nat.lt_succ_self 0)) ?_
    refine AList.c 21 rfl rfl rfl (OpJ.fieldAddr rfl rfl fd90_1 rfl) ?_
    refine AList.c 22 rfl rfl rfl (OpJ.load rfl rfl ty25 rfl) ?_
    refine AList.c0 rfl rfl (OpJ.store rfl rfl rfl rfl rfl ty25 rfl rfl) ?_
    refine AList.c 5 rfl rfl rfl (OpJ.assign rfl rfl) ?_
    refine AList.nil ?_
    refine AWp.ret ?_
    have eR : blackR c l = (blk c l, 0) := by unfold blackR; rw [if_pos e]
    rw [eR]
    exact Fin.many (xs := [spV (blk c l), .int .i64 0]) rfl (⟨_, _, rfl, ⟨_, _, _, rfl, ty25, rfl⟩, ⟨_, _, rfl, rfl, rfl⟩⟩) rfl
theorem rspan_R (c : List Tnt) (l : Lds) (hc : okC c) (hl : OkL l) : Pure Try.prog 39 [curV c, ldV l] (.tuple [spV (if blkB c l then blk c l else (0, 0)), .bool (blkB c l)]) := by
  have h := rspanf_ok c l hc hl
  rwa [(spanN_all c l).1, (spanN_all c l).2] at h
theorem rblack_ok (c : List Tnt) (l : Lds) (hcb : c.length ≤ bigN) (hs : l.st.length ≤ bigN) : Pure Try.prog 16 [curV c, ldV l] (.tuple [spV (blackR c l).1, .int .i64 (blackR c l).2]) := by
  refine Pure.start (N := 26) Try.func16 rfl rfl (Nat.le_of_ble_eq_true rfl) ?_
  refine AWp.seq ?_
  refine AWp.region ?_
  refine AList.c 3 rfl rfl rfl (OpJ.boxImm rfl rfl rfl) ?_
  refine AList.c 4 rfl rfl rfl (OpJ.allocOwn rfl zr25 rfl) ?_
  refine AList.c 5 rfl rfl rfl (OpJ.assign rfl rfl) ?_
  refine AList.nil ?_
  refine AWp.seq ?_
  refine AWp.seq ?_
  refine AWp.region ?_
  refine AList.c 8 rfl rfl rfl (OpJ.move rfl rfl) ?_
  refine AList.c 9 rfl rfl rfl (OpJ.callP (rcurve_ok c hcb) rfl rfl rfl rfl rf28) ?_
  refine AList.c 10 rfl rfl rfl (OpJ.not_ rfl rfl) ?_
  refine AList.nil ?_
  refine AWp.cond _ rfl (fun hc0 => ?_) (fun hc0 => ?_)
  · skip
    have hC : ¬ okC c := by simpa using hc0
    refine AWp.seq ?_
    refine AWp.region ?_
    refine AList.c 11 rfl rfl rfl (OpJ.build rfl bd25 rfl rfl) ?_
    refine AList.c0 rfl rfl (OpJ.store rfl rfl rfl rfl rfl ty25 rfl rfl) ?_
    refine AList.c 5 rfl rfl rfl (OpJ.assign rfl rfl) ?_
    refine AList.nil ?_
    refine AWp.ret ?_
    have eR : blackR c l = ((0, 0), 1) := by rw [blackR_eq]; rw [if_neg (fun h => hC h)]
    rw [eR]
    exact Fin.many (xs := [spV (((0, 0), 1)).1, .int .i64 (((0, 0), 1)).2]) rfl (⟨_, _, rfl, ⟨_, _, _, rfl, ty25, rfl⟩, ⟨_, _, rfl, rfl, rfl⟩⟩) rfl
  · skip
    have hC : okC c := by simpa using hc0
    refine AWp.skip ?_
    refine AWp.seq ?_
    refine AWp.seq ?_
    refine AWp.region ?_
    refine AList.c 12 rfl rfl rfl (OpJ.load rfl rfl ty28 rfl) ?_
    refine AList.c 13 rfl rfl rfl (OpJ.callP (rleads_ok l hs) rfl rfl rfl rfl rf29) ?_
    refine AList.c 14 rfl rfl rfl (OpJ.not_ rfl rfl) ?_
    refine AList.nil ?_
    refine AWp.cond _ rfl (fun hc1 => ?_) (fun hc1 => ?_)
    · skip
      have hL : ldB l = false := by simpa using hc1
      refine AWp.seq ?_
      refine AWp.region ?_
      refine AList.c 15 rfl rfl rfl (OpJ.build rfl bd25 rfl rfl) ?_
      refine AList.c0 rfl rfl (OpJ.store rfl rfl rfl rfl rfl ty25 rfl rfl) ?_
      refine AList.c 5 rfl rfl rfl (OpJ.assign rfl rfl) ?_
      refine AList.nil ?_
      refine AWp.ret ?_
      have eR : blackR c l = ((0, 0), 2) := by rw [blackR_eq]; rw [if_pos hC, if_neg (by rw [hL]; decide)]
      rw [eR]
      exact Fin.many (xs := [spV (((0, 0), 2)).1, .int .i64 (((0, 0), 2)).2]) rfl (⟨_, _, rfl, ⟨_, _, _, rfl, ty25, rfl⟩, ⟨_, _, rfl, rfl, rfl⟩⟩) rfl
    · skip
      have hL2 : ldB l = true := by simpa using hc1
      have hL := (ldB_iff l).1 hL2
      refine AWp.skip ?_
      refine AWp.seq ?_
      refine AWp.region ?_
      refine AList.c 17 rfl rfl rfl (OpJ.move rfl rfl) ?_
      refine AList.c 18 rfl rfl rfl (OpJ.load rfl rfl ty28 rfl) ?_
      refine AList.c 19 rfl rfl rfl (OpJ.callP (rspan_R c l hC hL) rfl rfl rfl rfl rf39) ?_
      refine AList.c 16 rfl rfl rfl (OpJ.move rfl rfl) ?_
      refine AList.c 20 rfl rfl rfl (OpJ.extract rfl rfl rfl) ?_
      refine AList.c 21 rfl rfl rfl (OpJ.extract rfl rfl rfl) ?_
      refine AList.c 6 rfl rfl rfl (OpJ.allocOwn rfl zr25 rfl) ?_
      refine AList.c0 rfl rfl (OpJ.store rfl rfl rfl rfl rfl ty25 rfl rfl) ?_
      refine AList.c 7 rfl rfl rfl (OpJ.assign rfl rfl) ?_
      refine AList.nil ?_
      refine AWp.seq ?_
      refine AWp.seq ?_
      refine AWp.region ?_
      refine AList.c 22 rfl rfl rfl (OpJ.move rfl rfl) ?_
      refine AList.c 23 rfl rfl rfl (OpJ.not_ rfl rfl) ?_
      refine AList.nil ?_
      refine AWp.cond _ rfl (fun hc2 => ?_) (fun hc2 => ?_)
      · skip
        have hB : blkB c l = false := by simpa using hc2
        refine AWp.seq ?_
        refine AWp.region ?_
        refine AList.c 24 rfl rfl rfl (OpJ.build rfl bd25 rfl rfl) ?_
        refine AList.c0 rfl rfl (OpJ.store rfl rfl rfl rfl rfl ty25 rfl rfl) ?_
        refine AList.c 5 rfl rfl rfl (OpJ.assign rfl rfl) ?_
        refine AList.nil ?_
        refine AWp.ret ?_
        have eR : blackR c l = ((0, 0), 6) := by rw [blackR_eq]; rw [if_pos hC, if_pos hL2, if_neg (by rw [hB]; decide)]
        rw [eR]
        exact Fin.many (xs := [spV (((0, 0), 6)).1, .int .i64 (((0, 0), 6)).2]) rfl (⟨_, _, rfl, ⟨_, _, _, rfl, ty25, rfl⟩, ⟨_, _, rfl, rfl, rfl⟩⟩) rfl
      · skip
        have hB : blkB c l = true := by simpa using hc2
        rw [if_pos hB]
        refine AWp.skip ?_
        refine AWp.seq ?_
        refine AWp.region ?_
        refine AList.c 25 rfl rfl rfl (OpJ.load rfl rfl ty25 rfl) ?_
        refine AList.c0 rfl rfl (OpJ.store rfl rfl rfl rfl rfl ty25 rfl rfl) ?_
        refine AList.c 5 rfl rfl rfl (OpJ.assign rfl rfl) ?_
        refine AList.nil ?_
        refine AWp.ret ?_
        have eR : blackR c l = (blk c l, 0) := by rw [blackR_eq]; rw [if_pos hC, if_pos hL2, if_pos hB]
        rw [eR]
        exact Fin.many (xs := [spV ((blk c l, 0)).1, .int .i64 ((blk c l, 0)).2]) rfl (⟨_, _, rfl, ⟨_, _, _, rfl, ty25, rfl⟩, ⟨_, _, rfl, rfl, rfl⟩⟩) rfl
theorem both_ok (a b c d : Int) : Pure Try.prog 44 [.agg [.int .i64 a, .int .i64 b], .agg [.int .i64 c, .int .i64 d]] (.agg [.int .i64 (max a c), .int .i64 (min b d)]) := by
  refine Pure.start (N := 16) Try.func44 rfl rfl (Nat.le_of_ble_eq_true rfl) ?_
  refine AWp.seq ?_
  refine AWp.region ?_
  refine AList.c 2 rfl rfl rfl (OpJ.boxImm rfl rfl rfl) ?_
  refine AList.c 3 rfl rfl rfl (OpJ.boxImm rfl rfl rfl) ?_
  refine AList.c 4 rfl rfl rfl (OpJ.allocOwn rfl zr25 rfl) ?_
  refine AList.nil ?_
  refine AWp.seq ?_
  refine AWp.region ?_
  refine AList.c 5 rfl rfl rfl (OpJ.fieldAddr rfl rfl fd25_0 rfl) ?_
  refine AList.c 6 rfl rfl rfl (OpJ.load rfl rfl ty3 rfl) ?_
  refine AList.c 7 rfl rfl rfl (OpJ.fieldAddr rfl rfl fd25_0 rfl) ?_
  refine AList.c 8 rfl rfl rfl (OpJ.load rfl rfl ty3 rfl) ?_
  refine AList.c 9 rfl rfl rfl (OpJ.max2 rfl rfl rfl) ?_
  refine AList.c 10 rfl rfl rfl (OpJ.fieldAddr rfl rfl fd25_1 rfl) ?_
  refine AList.c 11 rfl rfl rfl (OpJ.load rfl rfl ty3 rfl) ?_
  refine AList.c 12 rfl rfl rfl (OpJ.fieldAddr rfl rfl fd25_1 rfl) ?_
  refine AList.c 13 rfl rfl rfl (OpJ.load rfl rfl ty3 rfl) ?_
  refine AList.c 14 rfl rfl rfl (OpJ.min2 rfl rfl rfl) ?_
  refine AList.c 15 rfl rfl rfl (OpJ.build rfl bd25 rfl rfl) ?_
  refine AList.c0 rfl rfl (OpJ.store rfl rfl rfl rfl rfl ty25 rfl rfl) ?_
  refine AList.nil ?_
  refine AWp.ret ?_
  exact Fin.one rfl (⟨_, _, _, rfl, ty25, rfl⟩)
theorem rwithin_ok (a b c d : Int) : Pure Try.prog 46 [.agg [.int .i64 a, .int .i64 b], .agg [.int .i64 c, .int .i64 d]] (.bool (decide (c ≤ a) && decide (b ≤ d))) := by
  refine Pure.start (N := 17) Try.func46 rfl rfl (Nat.le_of_ble_eq_true rfl) ?_
  refine AWp.seq ?_
  refine AWp.region ?_
  refine AList.c 2 rfl rfl rfl (OpJ.boxImm rfl rfl rfl) ?_
  refine AList.c 3 rfl rfl rfl (OpJ.boxImm rfl rfl rfl) ?_
  refine AList.c 4 rfl rfl rfl (OpJ.assign rfl rfl) ?_
  refine AList.nil ?_
  refine AWp.seq ?_
  refine AWp.region ?_
  refine AList.c 5 rfl rfl rfl (OpJ.fieldAddr rfl rfl fd25_0 rfl) ?_
  refine AList.c 6 rfl rfl rfl (OpJ.load rfl rfl ty3 rfl) ?_
  refine AList.c 7 rfl rfl rfl (OpJ.fieldAddr rfl rfl fd25_0 rfl) ?_
  refine AList.c 8 rfl rfl rfl (OpJ.load rfl rfl ty3 rfl) ?_
  refine AList.c 9 rfl rfl rfl (OpJ.geq rfl rfl rfl) ?_
  refine AList.c 10 rfl rfl rfl (OpJ.move rfl rfl) ?_
  refine AList.g 11 10 rfl rfl rfl rfl rfl rfl rfl [(2, _)] (fun h => And.intro (.inl rfl) (trivial)) (fun h => (OpJ.fieldAddr rfl rfl fd25_1 rfl)) ?_
  refine AList.g 12 10 rfl rfl rfl rfl rfl rfl rfl [(11, _)] (fun h => And.intro (.inr ⟨_, rfl, h⟩) (trivial)) (fun h => (OpJ.load rfl rfl ty3 rfl)) ?_
  refine AList.g 13 10 rfl rfl rfl rfl rfl rfl rfl [(3, _)] (fun h => And.intro (.inl rfl) (trivial)) (fun h => (OpJ.fieldAddr rfl rfl fd25_1 rfl)) ?_
  refine AList.g 14 10 rfl rfl rfl rfl rfl rfl rfl [(13, _)] (fun h => And.intro (.inr ⟨_, rfl, h⟩) (trivial)) (fun h => (OpJ.load rfl rfl ty3 rfl)) ?_
  refine AList.g 15 10 rfl rfl rfl rfl rfl rfl rfl [(12, _), (14, _)] (fun h => And.intro (.inr ⟨_, rfl, h⟩) (And.intro (.inr ⟨_, rfl, h⟩) (trivial))) (fun h => (OpJ.leq rfl rfl rfl)) ?_
  refine AList.c 16 rfl rfl rfl (OpJ.and_ rfl rfl rfl ?_) ?_
  · first | (intro h; rw [h]; rfl) | (intro h; simp_all)
  refine AList.c 4 rfl rfl rfl (OpJ.assign rfl rfl) ?_
  refine AList.nil ?_
  refine AWp.ret ?_
  exact Fin.one rfl (rfl)
end Go.Proofs.Ythiapodcippnoaa
