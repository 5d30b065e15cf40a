/-
  The law ShadeBest.
-/
import Derived.Test.YthiapodcippnoaaSdFactsG
import Derived.Test.YthiapodcippnoaaSd12
import Derived.Test.YthiapodcippnoaaSdB
import Derived.Test.YthiapodcippnoaaAfL
set_option linter.unusedVariables false
set_option maxRecDepth 100000
set_option maxHeartbeats 4000000
set_option linter.unusedSimpArgs false
namespace Go.Proofs.Ythiapodcippnoaa
open Go.AF
theorem fits_ok (c : List Tnt) (ls : List Lds) (qs : List Int) (q : Nat → Int) (gap : Int) (hb : BOk (ls.map (toB c))) (g0 : 0 ≤ gap) (g1 : gap ≤ 200) (hq1 : 1 ≤ qs.length) (hq9 : qs.length ≤ 9) (hq : ∀ k (h : k < qs.length), qs[k] = q k) : Pure Try.prog 36 [ldsV ls, spsV (ls.map (blk c)), intsV qs, .int .i64 gap] (.tuple [.int .i64 (fitN q gap (qs.length - 1) (ls.map (toB c))), intsV (fitO q gap (qs.length - 1) (ls.map (toB c)))]) := by
  have hn := hb.n
  rw [List.length_map] at hn
  refine Pure.start (N := 65) Try.func36 rfl rfl (Nat.le_of_ble_eq_true rfl) ?_
  refine AWp.seq ?_
  refine AWp.region ?_
  refine AList.c 8 rfl rfl rfl (OpJ.assign rfl rfl) ?_
  refine AList.c 9 rfl rfl rfl (OpJ.assign rfl rfl) ?_
  refine AList.nil ?_
  refine AWp.seq ?_
  refine AWp.seq ?_
  refine AWp.region ?_
  refine AList.c 13 rfl rfl rfl (OpJ.move rfl rfl) ?_
  refine AList.c 14 rfl rfl rfl (OpJ.lenSlice rfl rfl sl39 rfl) ?_
  refine AList.c 15 rfl rfl rfl (OpJ.move rfl rfl) ?_
  refine AList.nil ?_
  refine AWp.block ?_
  refine AWp.loopHL [0, 1, 2, 3, 14, 63, 64] (fun g => [(15, .p (.int .i64 ((g : Nat) : Int))), (8, .p (.int .i64 (fitN q gap (qs.length - 1) ((ls.map (toB c)).take g)))), (9, accV 0 g)]) (fun g => [accB (((fitO q gap (qs.length - 1) ((ls.map (toB c)).take g)).flatMap i1).map .p) 3 g]) (fun g => g ≤ ls.length) (fun g => ls.length - g) 0 (Nat.zero_le _) (To.pad.trans (To.sub (Sub.chk (Sub.cons rfl (Sub.cons rfl (Sub.cons rfl Sub.nil)))))) (fun i hg => ?_)
  refine AWp.seq ?_
  refine AWp.region ?_
  refine AList.c 16 rfl rfl rfl (OpJ.lss rfl rfl rfl) ?_
  refine AList.nil ?_
  refine AWp.seq ?_
  refine AWp.cond _ rfl (fun hc0 => ?_) (fun hc0 => ?_)
  · skip
    have hk0 : i < ls.length := by have h := of_decide_eq_true hc0; omega
    have hkb : i < (ls.map (toB c)).length := by rw [List.length_map]; exact hk0
    have hbc := bc_map c ls hk0
    have hxb := hb.x _ (bc_mem hkb)
    rw [hbc] at hxb
    have hF := fitN_B (q := q) (gap := gap) (m := qs.length - 1) (by omega) (b := (ls.map (toB c)).take i) (fun x hx => (hb.x x (List.mem_of_mem_take hx)).2)
    have hTl : ((ls.map (toB c)).take i).length ≤ 10 := by rw [List.length_take, List.length_map]; omega
    have x0 : 0 ≤ (blk c (ld ls i)).1 ∧ (blk c (ld ls i)).1 ≤ (blk c (ld ls i)).2 ∧ (blk c (ld ls i)).2 ≤ 200 := hxb.1
    have x1 : 0 ≤ (ld ls i).many ∧ (ld ls i).many ≤ 1048576 := hxb.2
    refine AWp.skip ?_
    refine AWp.seq ?_
    refine AWp.block ?_
    refine AWp.seq ?_
    refine AWp.region ?_
    refine AList.c 17 rfl rfl rfl (OpJ.move rfl rfl) ?_
    refine AList.c 10 rfl rfl rfl (OpJ.assign rfl rfl) ?_
    refine AList.nil ?_
    refine AWp.seq ?_
    refine AWp.region ?_
    refine AList.c 11 rfl rfl rfl (OpJ.assign rfl rfl) ?_
    refine AList.nil ?_
    refine AWp.seq ?_
    refine AWp.seq ?_
    refine AWp.region ?_
    refine AList.c 12 rfl rfl rfl (OpJ.assign rfl rfl) ?_
    refine AList.nil ?_
    refine AWp.block ?_
    refine AWp.loopHL [0, 1, 2, 3, 9, 10, 14, 15, 16, 17, 58, 59, 60, 61, 62, 63, 64] (fun g => [(12, .p (.int .i64 ((g : Nat) : Int))), (11, .p (.int .i64 (fxO q gap (toB c (ld ls i)) g))), (8, .p (.int .i64 ((fitN q gap (qs.length - 1) ((ls.map (toB c)).take i)) + fxN q gap (toB c (ld ls i)) g)))]) (fun g => [accB (((fitO q gap (qs.length - 1) ((ls.map (toB c)).take i)).flatMap i1).map .p) 3 i]) (fun g => g ≤ qs.length - 1) (fun g => qs.length - 1 - g) 0 (Nat.zero_le _) (To.sub (Sub.chk (Sub.cons rfl (Sub.cons rfl (Sub.cons (by show _ = some (V.p (.int .i64 (_ + 0))); rw [Int.add_zero]; rfl) Sub.nil))))) (fun k hh => ?_)
    refine AWp.seq ?_
    refine AWp.seq ?_
    refine AWp.region ?_
    refine AList.c 18 rfl rfl rfl (OpJ.move rfl rfl) ?_
    refine AList.c 19 rfl rfl rfl (OpJ.add (m := ((k + 1 : Nat) : Int)) rfl rfl rfl ((i64ok ?_).trans ?_)) ?_
    · omega
    · omega
    refine AList.c 20 rfl rfl rfl (OpJ.move rfl rfl) ?_
    refine AList.c 21 rfl rfl rfl (OpJ.lenSlice rfl rfl sl34 rfl) ?_
    refine AList.c 22 rfl rfl rfl (OpJ.lss rfl rfl rfl) ?_
    refine AList.nil ?_
    refine AWp.cond _ rfl (fun hc1 => ?_) (fun hc1 => ?_)
    · skip
      have hk1 : k + 1 < qs.length := by have h := of_decide_eq_true hc1; omega
      have hN := fxN_B (q := q) (gap := gap) (x := (toB c (ld ls i))) hxb.2 k
      refine AWp.skip ?_
      refine AWp.seq ?_
      refine AWp.block ?_
      refine AWp.seq ?_
      refine AWp.regionDraw 25 mixed (by kernel_rfl) (by decide) ?_
      refine AQuiet.cons 25 rfl rfl rfl (OpJ.move rfl rfl) ?_
      refine AQuiet.cons 26 rfl rfl rfl (OpJ.move rfl rfl) ?_
      refine AQuiet.cons 27 rfl rfl rfl (OpJ.indexG (g := (fun i => blk c (ld ls i))) (blk_get c ls) rfl rfl rfl sl57 el57 rfl (fun _ => rfl) (by decide) (by rw [List.length_map]; exact hk0)) ?_
      refine AQuiet.cons 28 rfl rfl rfl (OpJ.fieldAddr rfl rfl fd25_0 rfl) ?_
      refine AQuiet.cons 29 rfl rfl rfl (OpJ.load rfl rfl ty3 rfl) ?_
      refine AQuiet.cons 30 rfl rfl rfl (OpJ.move rfl rfl) ?_
      refine AQuiet.cons 31 rfl rfl rfl (OpJ.move rfl rfl) ?_
      refine AQuiet.cons 32 rfl rfl rfl (OpJ.indexG (g := q) hq rfl rfl rfl sl34 el34 rfl (fun _ => rfl) (by decide) (by omega)) ?_
      refine AQuiet.cons 33 rfl rfl rfl (OpJ.load rfl rfl ty3 rfl) ?_
      refine AQuiet.cons 34 rfl rfl rfl (OpJ.geq rfl rfl rfl) ?_
      refine AQuiet.cons 35 rfl rfl rfl (OpJ.move rfl rfl) ?_
      refine AQuiet.guard 36 35 rfl rfl rfl rfl rfl rfl rfl [(1, _)] (fun h => And.intro (.inl rfl) (trivial)) (fun h => (OpJ.move rfl rfl)) ?_
      refine AQuiet.guard 37 35 rfl rfl rfl rfl rfl rfl rfl [(10, _)] (fun h => And.intro (.inl rfl) (trivial)) (fun h => (OpJ.move rfl rfl)) ?_
      refine AQuiet.guard 38 35 rfl rfl rfl rfl rfl rfl rfl [(36, _), (37, _)] (fun h => And.intro (.inr ⟨_, rfl, h⟩) (And.intro (.inr ⟨_, rfl, h⟩) (trivial))) (fun h => (OpJ.indexG (g := (fun i => blk c (ld ls i))) (blk_get c ls) rfl rfl rfl sl57 el57 rfl (fun _ => rfl) (by decide) (by rw [List.length_map]; exact hk0))) ?_
      refine AQuiet.guard 39 35 rfl rfl rfl rfl rfl rfl rfl [(38, _)] (fun h => And.intro (.inr ⟨_, rfl, h⟩) (trivial)) (fun h => (OpJ.fieldAddr rfl rfl fd25_1 rfl)) ?_
      refine AQuiet.guard 40 35 rfl rfl rfl rfl rfl rfl rfl [(39, _)] (fun h => And.intro (.inr ⟨_, rfl, h⟩) (trivial)) (fun h => (OpJ.load rfl rfl ty3 rfl)) ?_
      refine AQuiet.guard 41 35 rfl rfl rfl rfl rfl rfl rfl [(3, _)] (fun h => And.intro (.inl rfl) (trivial)) (fun h => (OpJ.move rfl rfl)) ?_
      refine AQuiet.guard 42 35 rfl rfl rfl rfl rfl rfl rfl [(40, _), (41, _)] (fun h => And.intro (.inr ⟨_, rfl, h⟩) (And.intro (.inr ⟨_, rfl, h⟩) (trivial))) (fun h => (OpJ.add rfl rfl rfl (i64ok (by show _ ≤ (blk c (ld ls i)).2 + gap ∧ (blk c (ld ls i)).2 + gap ≤ _; omega)))) ?_
      refine AQuiet.guard 43 35 rfl rfl rfl rfl rfl rfl rfl [(2, _)] (fun h => And.intro (.inl rfl) (trivial)) (fun h => (OpJ.move rfl rfl)) ?_
      refine AQuiet.guard 44 35 rfl rfl rfl rfl rfl rfl rfl [(12, _)] (fun h => And.intro (.inl rfl) (trivial)) (fun h => (OpJ.move rfl rfl)) ?_
      refine AQuiet.guard 45 35 rfl rfl rfl rfl rfl rfl rfl [(44, _)] (fun h => And.intro (.inr ⟨_, rfl, h⟩) (trivial)) (fun h => (OpJ.add (m := ((k + 1 : Nat) : Int)) rfl rfl rfl ((i64ok (by omega)).trans (by omega)))) ?_
      refine AQuiet.guard 46 35 rfl rfl rfl rfl rfl rfl rfl [(43, _), (45, _)] (fun h => And.intro (.inr ⟨_, rfl, h⟩) (And.intro (.inr ⟨_, rfl, h⟩) (trivial))) (fun h => (OpJ.indexG (g := q) hq rfl rfl rfl sl34 el34 rfl (fun _ => rfl) (by decide) hk1)) ?_
      refine AQuiet.guard 47 35 rfl rfl rfl rfl rfl rfl rfl [(46, _)] (fun h => And.intro (.inr ⟨_, rfl, h⟩) (trivial)) (fun h => (OpJ.load rfl rfl ty3 rfl)) ?_
      refine AQuiet.guard 48 35 rfl rfl rfl rfl rfl rfl rfl [(42, _), (47, _)] (fun h => And.intro (.inr ⟨_, rfl, h⟩) (And.intro (.inr ⟨_, rfl, h⟩) (trivial))) (fun h => (OpJ.leq rfl rfl rfl)) ?_
      refine AQuiet.cons 49 rfl rfl rfl (OpJ.and_ rfl rfl rfl ?_) ?_
      · first | (intro h; rw [h]; rfl) | (intro h; simp_all)
      refine AQuiet.nil ?_
      refine AList.nil ?_
      refine AWp.cond _ rfl (fun hc2 => ?_) (fun hc2 => ?_)
      · skip
        have hin : q k ≤ (blk c (ld ls i)).1 ∧ (blk c (ld ls i)).2 + gap ≤ q (k + 1) := by simp at hc2; omega
        have e1 : fxN q gap (toB c (ld ls i)) (k + 1) = fxN q gap (toB c (ld ls i)) k + (ld ls i).many := by show _ + soldX gap (q k) (q (k + 1)) _ = _; rw [show soldX gap (q k) (q (k + 1)) (toB c (ld ls i)) = (ld ls i).many from if_neg (by show ¬ ((blk c (ld ls i)).1 < q k ∨ q (k + 1) < (blk c (ld ls i)).2 + gap); omega)]
        have e2 : fxO q gap (toB c (ld ls i)) (k + 1) = (k : Int) := if_pos hin
        refine AWp.seq ?_
        refine AWp.region ?_
        refine AList.c 50 rfl rfl rfl (OpJ.move rfl rfl) ?_
        refine AList.c 11 rfl rfl rfl (OpJ.assign rfl rfl) ?_
        refine AList.nil ?_
        refine AWp.region ?_
        refine AList.c 51 rfl rfl rfl (OpJ.move rfl rfl) ?_
        refine AList.c 52 rfl rfl rfl (OpJ.move rfl rfl) ?_
        refine AList.c 53 rfl rfl rfl (OpJ.move rfl rfl) ?_
        refine AList.c 54 rfl rfl rfl (OpJ.indexG (g := ld ls) (fun _ h => ld_get h) rfl rfl rfl sl39 el39 rfl (fun _ => rfl) (by decide) hk0) ?_
        refine AList.c 55 rfl rfl rfl (OpJ.fieldAddr rfl rfl fd28_6 rfl) ?_
        refine AList.c 56 rfl rfl rfl (OpJ.load rfl rfl ty3 rfl) ?_
        refine AList.c 57 rfl rfl rfl (OpJ.add rfl rfl rfl (i64ok ?_)) ?_
        · omega
        refine AList.c 8 rfl rfl rfl (OpJ.assign rfl rfl) ?_
        refine AList.nil ?_
        refine AWp.region ?_
        refine AList.c 23 rfl rfl rfl (OpJ.move rfl rfl) ?_
        refine AList.c 24 rfl rfl rfl (OpJ.add rfl rfl rfl (i64ok ?_)) ?_
        · omega
        refine AList.c 12 rfl rfl rfl (OpJ.assign rfl rfl) ?_
        refine AList.nil ?_
        refine ⟨k + 1, ?_, ?_, ?_⟩
        · omega
        · omega
        exact To.sub (Sub.cons rfl (Sub.cons (by rw [e2]; rfl) (Sub.cons (by rw [e1, ← Int.add_assoc]; rfl) (by repeat (first | exact Sub.nil | refine Sub.cons rfl ?_)))))
      · skip
        have hin : ¬ (q k ≤ (blk c (ld ls i)).1 ∧ (blk c (ld ls i)).2 + gap ≤ q (k + 1)) := by intro h; simp at hc2; have := hc2 h.1; omega
        have e1 : fxN q gap (toB c (ld ls i)) (k + 1) = fxN q gap (toB c (ld ls i)) k := by show _ + soldX gap (q k) (q (k + 1)) _ = _; rw [show soldX gap (q k) (q (k + 1)) (toB c (ld ls i)) = 0 from if_pos (by show (blk c (ld ls i)).1 < q k ∨ q (k + 1) < (blk c (ld ls i)).2 + gap; omega), Int.add_zero]
        have e2 : fxO q gap (toB c (ld ls i)) (k + 1) = fxO q gap (toB c (ld ls i)) k := if_neg hin
        refine AWp.skip ?_
        refine AWp.region ?_
        refine AList.c 23 rfl rfl rfl (OpJ.move rfl rfl) ?_
        refine AList.c 24 rfl rfl rfl (OpJ.add rfl rfl rfl (i64ok ?_)) ?_
        · omega
        refine AList.c 12 rfl rfl rfl (OpJ.assign rfl rfl) ?_
        refine AList.nil ?_
        refine ⟨k + 1, ?_, ?_, ?_⟩
        · omega
        · omega
        exact To.sub (Sub.cons rfl (Sub.cons (by rw [e2]; rfl) (Sub.cons (by rw [e1]; rfl) (by repeat (first | exact Sub.nil | refine Sub.cons rfl ?_)))))
    · skip
      have hk2 : k = qs.length - 1 := by have h := of_decide_eq_false hc1; omega
      subst hk2
      refine AWp.exit ?_
      refine AWp.region ?_
      refine AList.c 58 rfl rfl rfl (OpJ.move rfl rfl) ?_
      refine AList.c 59 rfl rfl rfl (OpJ.move rfl rfl) ?_
      refine AList.c 60 rfl rfl rfl (OpJ.buildImm rfl slz34 (by decide) rfl rfl rfl) ?_
      refine AList.c 61 rfl rfl rfl (OpJ.appendAcc rfl rfl rfl slz34 sl34 rfl ?_ rfl (by decide) rfl by3 (by decide) ?_) ?_
      · rw [List.length_map, flat_len (c := 1) (fun _ => rfl)]; show (fitO _ _ _ _).length * 1 = i * 1; unfold fitO; rw [List.length_map, List.length_take_of_le (by omega)]
      · show (2 * (i + 1) + 192) * 8 ≤ 281474976710656; omega
      refine AList.c 9 rfl rfl rfl (OpJ.assign rfl rfl) ?_
      refine AList.nil ?_
      refine AWp.region ?_
      refine AList.c 62 rfl rfl rfl (OpJ.add rfl rfl rfl (i64ok ?_)) ?_
      · omega
      refine AList.c 15 rfl rfl rfl (OpJ.move rfl rfl) ?_
      refine AList.nil ?_
      refine ⟨i + 1, ?_, ?_, ?_⟩
      · omega
      · omega
      refine To.done [1] rfl (Sub.cons rfl (Sub.cons (by rw [fitN_take hkb, hbc]; rfl) (by repeat (first | exact Sub.nil | refine Sub.cons rfl ?_)))) ?_
      show [Blk.row (renL _ (_ ++ _)) _] = [Blk.row _ _]
      rw [renL_app, renL_pure, fitO_take hkb, hbc, List.flatMap_append, List.map_append]
      rfl
  · skip
    obtain rfl : ls.length = i := by have h := of_decide_eq_false hc0; omega
    refine AWp.exit ?_
    refine AWp.seq ?_
    refine AWp.region ?_
    refine AList.c 63 rfl rfl rfl (OpJ.move rfl rfl) ?_
    refine AList.c 64 rfl rfl rfl (OpJ.move rfl rfl) ?_
    refine AList.c 8 rfl rfl rfl (OpJ.assign rfl rfl) ?_
    refine AList.c 9 rfl rfl rfl (OpJ.assign rfl rfl) ?_
    refine AList.nil ?_
    refine AWp.to (To.accD 9 0 ls.length rfl rfl (fun h => by rw [h]; rfl)) ?_
    refine AWp.ret ?_
    have eT : intsV (fitO q gap (qs.length - 1) (ls.map (toB c))) = .is ((fitO q gap (qs.length - 1) ((ls.map (toB c)).take ls.length)).flatMap i1) ls.length := by unfold intsV; rw [List.take_of_length_le (by rw [List.length_map]; exact Nat.le_refl _)]; unfold fitO; rw [List.length_map, List.length_map]
    have eN : fitN q gap (qs.length - 1) (ls.map (toB c)) = fitN q gap (qs.length - 1) ((ls.map (toB c)).take ls.length) := by rw [List.take_of_length_le (by rw [List.length_map]; exact Nat.le_refl _)]
    rw [eT, eN]
    exact Fin.many (xs := [.int .i64 (fitN q gap (qs.length - 1) ((ls.map (toB c)).take ls.length)), .is ((fitO q gap (qs.length - 1) ((ls.map (toB c)).take ls.length)).flatMap i1) ls.length]) rfl (⟨_, _, rfl, rfl, ⟨_, _, rfl, rfl, rfl⟩⟩) rfl
end Go.Proofs.Ythiapodcippnoaa
