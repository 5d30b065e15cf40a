/-
  Has in both texts; are two lists the same; is there far more.
-/
import Derived.Test.YthiapodcippnoaaSd4
set_option linter.unusedVariables false
set_option maxRecDepth 100000
set_option maxHeartbeats 4000000
set_option linter.unusedSimpArgs false
namespace Go.Proofs.Ythiapodcippnoaa
open Go.AF
theorem has_R (c : List Tnt) (s : List Shd) (l : Lds) (hcb : c.length ≤ bigN) (hsl : s.length ≤ bigN) (hs : l.st.length ≤ bigN) : Pure Try.prog 17 [curV c, shdV s, ldV l] (.tuple [intsV (hasR c s l).1, .int .i64 (hasR c s l).2]) := by
  have hsl2 := hsl
  unfold bigN at hsl2
  refine Pure.start (N := 74) Try.func17 rfl rfl (Nat.le_of_ble_eq_true rfl) ?_
  refine AWp.seq ?_
  refine AWp.region ?_
  refine AList.c 5 rfl rfl rfl (OpJ.boxImm rfl rfl rfl) ?_
  refine AList.c 6 rfl rfl rfl (OpJ.assign rfl rfl) ?_
  refine AList.c 7 rfl rfl rfl (OpJ.assign rfl rfl) ?_
  refine AList.nil ?_
  refine AWp.seq ?_
  refine AWp.region ?_
  refine AList.c 8 rfl rfl rfl (OpJ.assign rfl rfl) ?_
  refine AList.nil ?_
  refine AWp.seq ?_
  refine AWp.seq ?_
  refine AWp.region ?_
  refine AList.c 13 rfl rfl rfl (OpJ.move rfl rfl) ?_
  refine AList.c 14 rfl rfl rfl (OpJ.callP (isCurve_ok c hcb) rfl rfl rfl rfl rf42) ?_
  refine AList.c 15 rfl rfl rfl (OpJ.move rfl rfl) ?_
  refine AList.g 16 15 rfl rfl rfl rfl rfl rfl rfl [(1, _)] (fun h => And.intro (.inl rfl) (trivial)) (fun h => (OpJ.move rfl rfl)) ?_
  refine AList.g 17 15 rfl rfl rfl rfl rfl rfl rfl [(16, _)] (fun h => And.intro (.inr ⟨_, rfl, h⟩) (trivial)) (fun h => (OpJ.lenSlice rfl rfl sl23 rfl)) ?_
  refine AList.g 18 15 rfl rfl rfl rfl rfl rfl rfl [(17, _)] (fun h => And.intro (.inr ⟨_, rfl, h⟩) (trivial)) (fun h => (OpJ.gtr rfl rfl rfl)) ?_
  refine AList.c 19 rfl rfl rfl (OpJ.and_ rfl rfl rfl ?_) ?_
  · first | (intro h; rw [h]; rfl) | (intro h; simp_all)
  refine AList.nil ?_
  refine AWp.cond _ rfl (fun hc0 => ?_) (fun hc0 => ?_)
  · skip
    have hE : okC c ∧ 8 < s.length := by simp at hc0; exact ⟨hc0.1, by omega⟩
    refine AWp.seq ?_
    refine AWp.region ?_
    refine AList.c 6 rfl rfl rfl (OpJ.assign rfl rfl) ?_
    refine AList.c 7 rfl rfl rfl (OpJ.assign rfl rfl) ?_
    refine AList.nil ?_
    refine AWp.to (To.nilIs 6 rfl) ?_
    refine AWp.ret ?_
    have eE : hasE c s l = 3 := by unfold hasE; rw [if_pos hE]
    have eR : hasR c s l = ([], 3) := by unfold hasR; rw [if_neg (by rw [eE]; decide), eE]
    rw [eR]
    exact Fin.many (xs := [intsV [], .int .i64 3]) rfl (⟨_, _, rfl, rfl, ⟨_, _, rfl, rfl, rfl⟩⟩) rfl
  · skip
    have hE : ¬ (okC c ∧ 8 < s.length) := by simp at hc0; intro h; have := hc0 h.1; omega
    refine AWp.skip ?_
    refine AWp.seq ?_
    refine AWp.regionDraw 13 mixed (by kernel_rfl) (by decide) ?_
    refine AQuiet.cons 21 rfl rfl rfl (OpJ.move rfl rfl) ?_
    refine AQuiet.cons 22 rfl rfl rfl (OpJ.load (v := .p (ldV l)) rfl rfl ty28 rfl) ?_
    refine AQuiet.cons 23 rfl rfl rfl (OpJ.buildImm rfl slz39 (by decide) rfl rfl rfl) ?_
    refine AQuiet.cons 24 rfl rfl rfl (OpJ.move rfl rfl) ?_
    refine AQuiet.cons 25 rfl rfl rfl (OpJ.move rfl rfl) ?_
    refine AQuiet.cons 26 rfl rfl rfl (OpJ.callP (containsFS_ok s _ (fun x => !shdB x) hsl (fun x hx => ⟨40, [.agg x.cells], rfl, rf40, has1_ok x⟩)) rfl rfl rfl rfl rf43) ?_
    refine AQuiet.cons 27 rfl rfl rfl (OpJ.not_ rfl rfl) ?_
    refine AQuiet.cons 28 rfl rfl rfl (OpJ.callP (open_ok c [l] 1 (!s.any fun x => !shdB x) (by omega) hcb (by unfold bigN; show 1 ≤ _; omega) (fun x hx => by simp at hx; subst hx; exact hs)) rfl rfl rfl rfl rf38) ?_
    refine AQuiet.cons 20 rfl rfl rfl (OpJ.move rfl rfl) ?_
    refine AQuiet.cons 29 rfl rfl rfl (OpJ.extract rfl rfl rfl) ?_
    refine AQuiet.cons 30 rfl rfl rfl (OpJ.extract rfl rfl rfl) ?_
    refine AQuiet.cons 9 rfl rfl rfl (OpJ.assign rfl rfl) ?_
    refine AQuiet.cons 7 rfl rfl rfl (OpJ.assign rfl rfl) ?_
    refine AQuiet.nil ?_
    refine AList.nil ?_
    refine AWp.seq ?_
    refine AWp.seq ?_
    refine AWp.region ?_
    refine AList.c 31 rfl rfl rfl (OpJ.move rfl rfl) ?_
    refine AList.c 32 rfl rfl rfl (OpJ.neq rfl rfl rfl) ?_
    refine AList.nil ?_
    refine AWp.cond _ rfl (fun hc1 => ?_) (fun hc1 => ?_)
    · skip
      have e : openE c [l] 1 (!s.any fun x => !shdB x) ≠ 0 := by simpa using hc1
      refine AWp.seq ?_
      refine AWp.region ?_
      refine AList.c 33 rfl rfl rfl (OpJ.move rfl rfl) ?_
      refine AList.c 6 rfl rfl rfl (OpJ.assign rfl rfl) ?_
      refine AList.c 7 rfl rfl rfl (OpJ.assign rfl rfl) ?_
      refine AList.nil ?_
      refine AWp.to (To.nilIs 6 rfl) ?_
      refine AWp.ret ?_
      have eE : hasE c s l = openE c [l] 1 (!s.any fun x => !shdB x) := by unfold hasE; rw [if_neg hE]
      have eR : hasR c s l = ([], openE c [l] 1 (!s.any fun x => !shdB x)) := by unfold hasR; rw [if_neg (by rw [eE]; exact e), eE]
      rw [eR]
      exact Fin.many (xs := [intsV [], .int .i64 (openE c [l] 1 (!s.any fun x => !shdB x))]) rfl (⟨_, _, rfl, rfl, ⟨_, _, rfl, rfl, rfl⟩⟩) rfl
    · skip
      have e : openE c [l] 1 (!s.any fun x => !shdB x) = 0 := by simpa using hc1
      rw [openL_one e]
      have hO := openE_zero.1 e
      have hC := hO.oc
      have h8 : s.length ≤ 8 := by rcases Nat.lt_or_ge 8 s.length with h | h; { exact absurd ⟨hC, h⟩ hE }; { exact h }
      refine AWp.skip ?_
      refine AWp.seq ?_
      refine AWp.regionDrawC 11 mixed (by kernel_rfl) (by decide) ?_
      refine AQuietC.cons 34 rfl rfl rfl (OpJ.move rfl rfl) (fun _ => (OpJ.move rfl rfl)) ?_
      refine AQuietC.cons 35 rfl rfl rfl (OpJ.indexG (g := bc [toB c l]) (k := 0) (fun _ h => bc_get h) rfl rfl rfl sl86 el86 rfl (fun _ => rfl) (by decide) (Nat.lt_succ_self 0)) (fun _ => (OpJ.indexG (g := bc [toB c l]) (k := 0) (fun _ h => bc_get h) rfl rfl rfl sl86 el86 rfl (fun _ => rfl) (by decide) (Nat.lt_succ_self 0))) ?_
      refine AQuietC.cons 36 rfl rfl rfl (OpJ.fieldAddr rfl rfl fd90_1 rfl) (fun _ => (OpJ.fieldAddr rfl rfl fd90_1 rfl)) ?_
      refine AQuietC.cons 37 rfl rfl rfl (OpJ.load (v := .p (spV (blk c l))) rfl rfl ty25 rfl) (fun _ => (OpJ.load (v := .p (spV (blk c l))) rfl rfl ty25 rfl)) ?_
      refine AQuietC.cons 38 rfl rfl rfl (OpJ.fieldAddr rfl rfl fd28_4 rfl) (fun _ => (OpJ.fieldAddr rfl rfl fd28_4 rfl)) ?_
      refine AQuietC.cons 39 rfl rfl rfl (OpJ.load rfl rfl ty25 rfl) (fun _ => (OpJ.load rfl rfl ty25 rfl)) ?_
      refine AQuietC.cons 40 rfl rfl rfl (OpJ.fieldAddr rfl rfl fd28_5 rfl) (fun _ => (OpJ.fieldAddr rfl rfl fd28_5 rfl)) ?_
      refine AQuietC.cons 41 rfl rfl rfl (OpJ.load rfl rfl ty25 rfl) (fun _ => (OpJ.load rfl rfl ty25 rfl)) ?_
      refine AQuietC.cons 42 rfl rfl rfl (OpJ.buildR (v := .p (.agg (ownS c l).cells)) rfl bd66 rfl rfl rfl) (fun _ => (OpJ.buildR (v := .p (.agg (ownS c l).cells)) rfl bd66 rfl rfl rfl)) ?_
      refine AQuietC.lay 10 rfl rfl rfl (OpJ.allocOwn rfl zr66 rfl) ?_
      refine AQuietC.put (blk2 := .cells ((ownS c l).cells.map .p) 66) rfl rfl (by decide) (OpJ.store rfl rfl rfl rfl rfl ty66 rfl rfl) rfl ?_
      refine AQuietC.nil ?_
      refine AList.nil ?_
      refine AWp.seq ?_
      refine AWp.seq ?_
      refine AWp.region ?_
      refine AList.c 43 rfl rfl rfl (OpJ.move rfl rfl) ?_
      refine AList.c 44 rfl rfl rfl (OpJ.lenSlice rfl rfl sl23 rfl) ?_
      refine AList.c 45 rfl rfl rfl (OpJ.move rfl rfl) ?_
      refine AList.nil ?_
      refine AWp.block ?_
      refine AWp.loopHL [10, 43, 44, 73] (fun g => [(45, .p (.int .i64 ((g : Nat) : Int))), (6, accV 1 (idxs (fun i => hasQ c (sh s i) l) g).length)]) (fun g => [.cells ((ownS c l).cells.map .p) 66, accB (((idxs (fun i => hasQ c (sh s i) l) g).flatMap i1).map .p) 3 (idxs (fun i => hasQ c (sh s i) l) g).length]) (fun g => g ≤ s.length) (fun g => s.length - g) 0 (Nat.zero_le _) (To.pad.trans (To.sub (Sub.chk (Sub.cons rfl (Sub.cons rfl Sub.nil))))) (fun i hg => ?_)
      refine AWp.seq ?_
      refine AWp.region ?_
      refine AList.c 46 rfl rfl rfl (OpJ.lss rfl rfl rfl) ?_
      refine AList.nil ?_
      refine AWp.seq ?_
      refine AWp.cond _ rfl (fun hc2 => ?_) (fun hc2 => ?_)
      · skip
        have hk0 : i < s.length := by have h := of_decide_eq_true hc2; omega
        have il := idxs_len (fun i => hasQ c (sh s i) l) i
        refine AWp.skip ?_
        refine AWp.seq ?_
        refine AWp.block ?_
        refine AWp.seq ?_
        refine AWp.region ?_
        refine AList.c 47 rfl rfl rfl (OpJ.move rfl rfl) ?_
        refine AList.c 48 rfl rfl rfl (OpJ.indexG (g := sh s) (fun _ h => sh_get h) rfl rfl rfl sl23 el23 rfl (fun _ => rfl) (by decide) hk0) ?_
        refine AList.c 49 rfl rfl rfl (OpJ.load (v := .p (.agg (sh s i).cells)) rfl rfl ty66 rfl) ?_
        refine AList.c 12 rfl rfl rfl (OpJ.allocOwn rfl zr66 rfl) ?_
        refine AList.c 11 rfl rfl rfl (OpJ.assign rfl rfl) ?_
        refine AList.c0 rfl rfl (OpJ.store (H' := [.cells ((ownS c l).cells.map .p) 66, accB (((idxs (fun i => hasQ c (sh s i) l) i).flatMap i1).map .p) 3 (idxs (fun i => hasQ c (sh s i) l) i).length, .cells ((sh s i).cells.map .p) 66]) rfl rfl rfl rfl rfl ty66 rfl rfl) ?_
        refine AList.nil ?_
        refine AWp.seq ?_
        refine AWp.regionDraw 18 mixed (by kernel_rfl) (by decide) ?_
        refine AQuiet.cons 50 rfl rfl rfl (OpJ.fieldAddr rfl rfl fd66_0 rfl) ?_
        refine AQuiet.cons 51 rfl rfl rfl (OpJ.load rfl rfl ty25 rfl) ?_
        refine AQuiet.cons 52 rfl rfl rfl (OpJ.fieldAddr rfl rfl fd66_0 rfl) ?_
        refine AQuiet.cons 53 rfl rfl rfl (OpJ.load rfl rfl ty25 rfl) ?_
        refine AQuiet.cons 54 rfl rfl rfl (OpJ.callP (both_ok _ _ _ _) rfl rfl rfl rfl rf44) ?_
        refine AQuiet.cons 55 rfl rfl rfl (OpJ.fieldAddr rfl rfl fd66_1 rfl) ?_
        refine AQuiet.cons 56 rfl rfl rfl (OpJ.load rfl rfl ty25 rfl) ?_
        refine AQuiet.cons 57 rfl rfl rfl (OpJ.fieldAddr rfl rfl fd66_1 rfl) ?_
        refine AQuiet.cons 58 rfl rfl rfl (OpJ.load rfl rfl ty25 rfl) ?_
        refine AQuiet.cons 59 rfl rfl rfl (OpJ.callP (both_ok _ _ _ _) rfl rfl rfl rfl rf44) ?_
        refine AQuiet.cons 60 rfl rfl rfl (OpJ.fieldAddr rfl rfl fd66_2 rfl) ?_
        refine AQuiet.cons 61 rfl rfl rfl (OpJ.load rfl rfl ty25 rfl) ?_
        refine AQuiet.cons 62 rfl rfl rfl (OpJ.fieldAddr rfl rfl fd66_2 rfl) ?_
        refine AQuiet.cons 63 rfl rfl rfl (OpJ.load rfl rfl ty25 rfl) ?_
        refine AQuiet.cons 64 rfl rfl rfl (OpJ.callP (both_ok _ _ _ _) rfl rfl rfl rfl rf44) ?_
        refine AQuiet.cons 65 rfl rfl rfl (OpJ.build rfl bd66 rfl rfl) ?_
        refine AQuiet.cons 66 rfl rfl rfl (OpJ.load (v := .p (.agg (ownS c l).cells)) rfl rfl ty66 rfl) ?_
        refine AQuiet.cons 67 rfl rfl rfl (OpJ.eqAgg (d := 8) rfl (.inl rfl) rfl rfl (by decide) eq66 ty66 rfl eg66 rfl) ?_
        refine AQuiet.nil ?_
        refine AList.nil ?_
        refine AWp.cond _ rfl (fun hc3 => ?_) (fun hc3 => ?_)
        · skip
          have hQ : hasQ c (sh s i) l = true := decide_eq_true (by simp [ownS] at hc3; omega)
          refine AWp.region ?_
          refine AList.c 68 rfl rfl rfl (OpJ.move rfl rfl) ?_
          refine AList.c 69 rfl rfl rfl (OpJ.move rfl rfl) ?_
          refine AList.c 70 rfl rfl rfl (OpJ.buildImm rfl slz34 (by decide) rfl rfl rfl) ?_
          refine AList.c 71 rfl rfl rfl (OpJ.appendAcc rfl rfl rfl slz34 sl34 rfl ?_ rfl (by decide) rfl by3 (by decide) ?_) ?_
          · rw [List.length_map, flat_len (c := 1) (fun _ => rfl)]; rfl
          · show (2 * ((idxs (fun i => hasQ c (sh s i) l) i).length + 1) + 192) * 8 ≤ 281474976710656; omega
          refine AList.c 6 rfl rfl rfl (OpJ.assign rfl rfl) ?_
          refine AList.nil ?_
          refine AWp.region ?_
          refine AList.c 72 rfl rfl rfl (OpJ.add rfl rfl rfl (i64ok ?_)) ?_
          · omega
          refine AList.c 45 rfl rfl rfl (OpJ.move rfl rfl) ?_
          refine AList.nil ?_
          refine ⟨i + 1, ?_, ?_, ?_⟩
          · omega
          · omega
          have eo : idxs (fun i => hasQ c (sh s i) l) (i + 1) = idxs (fun i => hasQ c (sh s i) l) i ++ [(i : Int)] := by simp only [idxs]; rw [if_pos hQ]
          rw [eo, List.length_append]
          refine To.done [0, 3] rfl (by repeat (first | exact Sub.nil | refine Sub.cons rfl ?_)) ?_
          show [_, Blk.row (renL _ (_ ++ _)) _] = [_, Blk.row _ _]
          rw [renL_app, renL_pure, List.flatMap_append, List.map_append]
          rfl
        · skip
          have hQ : hasQ c (sh s i) l = false := decide_eq_false (by simp [ownS] at hc3; intro h; have := hc3; omega)
          refine AWp.skip ?_
          refine AWp.region ?_
          refine AList.c 72 rfl rfl rfl (OpJ.add rfl rfl rfl (i64ok ?_)) ?_
          · omega
          refine AList.c 45 rfl rfl rfl (OpJ.move rfl rfl) ?_
          refine AList.nil ?_
          refine ⟨i + 1, ?_, ?_, ?_⟩
          · omega
          · omega
          have eo : idxs (fun i => hasQ c (sh s i) l) (i + 1) = idxs (fun i => hasQ c (sh s i) l) i := by simp only [idxs]; rw [if_neg (by rw [hQ]; decide)]
          rw [eo]
          refine To.done [0, 1] rfl (Sub.cons rfl (Sub.cons (by show some (renV _ (accV 1 _)) = some _; rw [renV_acc (σ := pl [0, 1]) (j := 1) rfl]) (by repeat (first | exact Sub.nil | refine Sub.cons rfl ?_)))) (by show [_, renB _ (accB _ _ _)] = _; rw [renB_accB]; rfl)
      · skip
        obtain rfl : i = s.length := by have h := of_decide_eq_false hc2; omega
        refine AWp.exit ?_
        refine AWp.seq ?_
        refine AWp.region ?_
        refine AList.c 73 rfl rfl rfl (OpJ.move rfl rfl) ?_
        refine AList.c 6 rfl rfl rfl (OpJ.assign rfl rfl) ?_
        refine AList.c 7 rfl rfl rfl (OpJ.assign rfl rfl) ?_
        refine AList.nil ?_
        refine AWp.to (To.accD 6 1 (idxs (fun i => hasQ c (sh s i) l) s.length).length rfl rfl (fun h => by rw [List.length_eq_zero_iff.1 h]; rfl)) ?_
        refine AWp.ret ?_
        have eR : hasR c s l = ((idxs (fun i => hasQ c (sh s i) l) s.length), 0) := by unfold hasR hasE; rw [if_neg hE, if_pos e]
        rw [eR]
        exact Fin.many (xs := [intsV (idxs (fun i => hasQ c (sh s i) l) s.length), .int .i64 0]) rfl (⟨_, _, rfl, rfl, ⟨_, _, rfl, rfl, rfl⟩⟩) rfl
theorem rhas_ok (c : List Tnt) (s : List Shd) (l : Lds) (hcb : c.length ≤ bigN) (hsl : s.length ≤ bigN) (hs : l.st.length ≤ bigN) : Pure Try.prog 18 [curV c, shdV s, ldV l] (.tuple [intsV (hasR c s l).1, .int .i64 (hasR c s l).2]) := by
  have hsl2 := hsl
  unfold bigN at hsl2
  refine Pure.start (N := 85) Try.func18 rfl rfl (Nat.le_of_ble_eq_true rfl) ?_
  refine AWp.seq ?_
  refine AWp.region ?_
  refine AList.c 5 rfl rfl rfl (OpJ.boxImm rfl rfl rfl) ?_
  refine AList.c 6 rfl rfl rfl (OpJ.assign rfl rfl) ?_
  refine AList.c 7 rfl rfl rfl (OpJ.assign rfl rfl) ?_
  refine AList.nil ?_
  refine AWp.seq ?_
  refine AWp.seq ?_
  refine AWp.region ?_
  refine AList.c 14 rfl rfl rfl (OpJ.move rfl rfl) ?_
  refine AList.c 15 rfl rfl rfl (OpJ.callP (rcurve_ok c hcb) rfl rfl rfl rfl rf28) ?_
  refine AList.c 16 rfl rfl rfl (OpJ.not_ rfl rfl) ?_
  refine AList.nil ?_
  refine AWp.cond _ rfl (fun hc0 => ?_) (fun hc0 => ?_)
  · skip
    have hC : ¬ okC c := by simpa using hc0
    refine AWp.seq ?_
    refine AWp.region ?_
    refine AList.c 6 rfl rfl rfl (OpJ.assign rfl rfl) ?_
    refine AList.c 7 rfl rfl rfl (OpJ.assign rfl rfl) ?_
    refine AList.nil ?_
    refine AWp.to (To.nilIs 6 rfl) ?_
    refine AWp.ret ?_
    have eE : hasE c s l = 1 := by rw [hasE_eq, if_neg hC]
    have eR : hasR c s l = ([], 1) := by unfold hasR; rw [if_neg (by rw [eE]; decide), eE]
    rw [eR]
    exact Fin.many (xs := [intsV [], .int .i64 1]) rfl (⟨_, _, rfl, rfl, ⟨_, _, rfl, rfl, rfl⟩⟩) rfl
  · skip
    have hC : okC c := by simpa using hc0
    refine AWp.skip ?_
    refine AWp.seq ?_
    refine AWp.seq ?_
    refine AWp.region ?_
    refine AList.c 17 rfl rfl rfl (OpJ.move rfl rfl) ?_
    refine AList.c 18 rfl rfl rfl (OpJ.lenSlice rfl rfl sl23 rfl) ?_
    refine AList.c 19 rfl rfl rfl (OpJ.gtr rfl rfl rfl) ?_
    refine AList.nil ?_
    refine AWp.cond _ rfl (fun hc1 => ?_) (fun hc1 => ?_)
    · skip
      have h8 : 8 < s.length := by have h := of_decide_eq_true hc1; omega
      refine AWp.seq ?_
      refine AWp.region ?_
      refine AList.c 6 rfl rfl rfl (OpJ.assign rfl rfl) ?_
      refine AList.c 7 rfl rfl rfl (OpJ.assign rfl rfl) ?_
      refine AList.nil ?_
      refine AWp.to (To.nilIs 6 rfl) ?_
      refine AWp.ret ?_
      have eE : hasE c s l = 3 := by rw [hasE_eq, if_pos hC, if_pos h8]
      have eR : hasR c s l = ([], 3) := by unfold hasR; rw [if_neg (by rw [eE]; decide), eE]
      rw [eR]
      exact Fin.many (xs := [intsV [], .int .i64 3]) rfl (⟨_, _, rfl, rfl, ⟨_, _, rfl, rfl, rfl⟩⟩) rfl
    · skip
      have h8 : s.length ≤ 8 := by have h := of_decide_eq_false hc1; omega
      refine AWp.skip ?_
      refine AWp.seq ?_
      refine AWp.region ?_
      refine AList.c 20 rfl rfl rfl (OpJ.load rfl rfl ty28 rfl) ?_
      refine AList.c 21 rfl rfl rfl (OpJ.callP (rleads_ok l hs) rfl rfl rfl rfl rf29) ?_
      refine AList.c 8 rfl rfl rfl (OpJ.assign rfl rfl) ?_
      refine AList.nil ?_
      refine AWp.seq ?_
      refine AWp.seq ?_
      refine AWp.region ?_
      refine AList.c 9 rfl rfl rfl (OpJ.assign rfl rfl) ?_
      refine AList.nil ?_
      refine AWp.block ?_
      refine AWp.loopKL [0, 1, 5, 6, 10, 11, 12, 13, 36, 37, 38, 39, 40, 41, 42, 43, 44, 45, 46, 47, 48, 49, 50, 51, 52, 53, 54, 55, 56, 57, 58, 59, 60, 61, 62, 63, 64, 65, 66, 67, 68, 69, 70, 71, 72, 73, 74, 75, 76, 77, 78, 79, 80, 81, 82, 83, 84] (fun g => [(9, .p (.int .i64 ((g : Nat) : Int))), (8, .p (.bool (ldB l && (s.take g).all shdB)))]) (fun g => g ≤ s.length) (fun g => s.length - g) 0 (Nat.zero_le _) (Sub.cons rfl (Sub.cons (by rw [List.take_zero, List.all_nil, Bool.and_true]; rfl) Sub.nil)) (fun i hg => ?_)
      refine AWp.seq ?_
      refine AWp.seq ?_
      refine AWp.region ?_
      refine AList.c 22 rfl rfl rfl (OpJ.move rfl rfl) ?_
      refine AList.c 23 rfl rfl rfl (OpJ.move rfl rfl) ?_
      refine AList.c 24 rfl rfl rfl (OpJ.lenSlice rfl rfl sl23 rfl) ?_
      refine AList.c 25 rfl rfl rfl (OpJ.lss rfl rfl rfl) ?_
      refine AList.nil ?_
      refine AWp.cond _ rfl (fun hc2 => ?_) (fun hc2 => ?_)
      · skip
        have hk0 : i < s.length := by have h := of_decide_eq_true hc2; omega
        refine AWp.skip ?_
        refine AWp.seq ?_
        refine AWp.block ?_
        refine AWp.region ?_
        refine AList.c 28 rfl rfl rfl (OpJ.move rfl rfl) ?_
        refine AList.c 29 rfl rfl rfl (OpJ.move rfl rfl) ?_
        refine AList.g 30 29 rfl rfl rfl rfl rfl rfl rfl [(1, _)] (fun h => And.intro (.inl rfl) (trivial)) (fun h => (OpJ.move rfl rfl)) ?_
        refine AList.g 31 29 rfl rfl rfl rfl rfl rfl rfl [(9, _)] (fun h => And.intro (.inl rfl) (trivial)) (fun h => (OpJ.move rfl rfl)) ?_
        refine AList.g 32 29 rfl rfl rfl rfl rfl rfl rfl [(30, _), (31, _)] (fun h => And.intro (.inr ⟨_, rfl, h⟩) (And.intro (.inr ⟨_, rfl, h⟩) (trivial))) (fun h => (OpJ.indexG (g := sh s) (fun _ h => sh_get h) rfl rfl rfl sl23 el23 rfl (fun _ => rfl) (by decide) hk0)) ?_
        refine AList.g 33 29 rfl rfl rfl rfl rfl rfl rfl [(32, _)] (fun h => And.intro (.inr ⟨_, rfl, h⟩) (trivial)) (fun h => (OpJ.load rfl rfl ty66 rfl)) ?_
        refine AList.g 34 29 rfl rfl rfl rfl rfl rfl rfl [(33, _)] (fun h => And.intro (.inr ⟨_, rfl, h⟩) (trivial)) (fun h => (OpJ.callP (rshade_ok _) rfl rfl rfl rfl rf45)) ?_
        refine AList.c 35 rfl rfl rfl (OpJ.and_ rfl rfl rfl ?_) ?_
        · first | (intro h; rw [h]; rfl) | (intro h; simp_all)
        refine AList.c 8 rfl rfl rfl (OpJ.assign rfl rfl) ?_
        refine AList.nil ?_
        refine AWp.region ?_
        refine AList.c 26 rfl rfl rfl (OpJ.move rfl rfl) ?_
        refine AList.c 27 rfl rfl rfl (OpJ.add rfl rfl rfl (i64ok ?_)) ?_
        · omega
        refine AList.c 9 rfl rfl rfl (OpJ.assign rfl rfl) ?_
        refine AList.nil ?_
        refine ⟨i + 1, ?_, ?_, ?_⟩
        · omega
        · omega
        refine To.done [] rfl (Sub.cons rfl (Sub.cons (by rw [List.take_succ_eq_append_getElem hk0, List.all_append, sh_get hk0, List.all_cons, List.all_nil, Bool.and_true, ← Bool.and_assoc]; rfl) (by repeat (first | exact Sub.nil | refine Sub.cons rfl ?_)))) rfl
      · skip
        obtain rfl : i = s.length := by have h := of_decide_eq_false hc2; omega
        rw [List.take_length]
        refine AWp.exit ?_
        refine AWp.seq ?_
        refine AWp.seq ?_
        refine AWp.region ?_
        refine AList.c 36 rfl rfl rfl (OpJ.move rfl rfl) ?_
        refine AList.c 37 rfl rfl rfl (OpJ.not_ rfl rfl) ?_
        refine AList.nil ?_
        refine AWp.cond _ rfl (fun hc3 => ?_) (fun hc3 => ?_)
        · skip
          have hV : (ldB l && s.all shdB) = false := by cases h : (ldB l && s.all shdB) with | false => rfl | true => rw [h] at hc3; cases hc3
          refine AWp.seq ?_
          refine AWp.region ?_
          refine AList.c 6 rfl rfl rfl (OpJ.assign rfl rfl) ?_
          refine AList.c 7 rfl rfl rfl (OpJ.assign rfl rfl) ?_
          refine AList.nil ?_
          refine AWp.to (To.nilIs 6 rfl) ?_
          refine AWp.ret ?_
          have eE : hasE c s l = 2 := by rw [hasE_eq, if_pos hC, if_neg (by omega), if_neg (by rw [hV]; decide)]
          have eR : hasR c s l = ([], 2) := by unfold hasR; rw [if_neg (by rw [eE]; decide), eE]
          rw [eR]
          exact Fin.many (xs := [intsV [], .int .i64 2]) rfl (⟨_, _, rfl, rfl, ⟨_, _, rfl, rfl, rfl⟩⟩) rfl
        · skip
          have hV : (ldB l && s.all shdB) = true := by cases h : (ldB l && s.all shdB) with | true => rfl | false => rw [h] at hc3; cases hc3
          refine AWp.skip ?_
          refine AWp.seq ?_
          refine AWp.region ?_
          refine AList.c 39 rfl rfl rfl (OpJ.move rfl rfl) ?_
          refine AList.c 40 rfl rfl rfl (OpJ.load rfl rfl ty28 rfl) ?_
          refine AList.c 41 rfl rfl rfl (OpJ.callP (rblack_ok c l hcb hs) rfl rfl rfl rfl rf16) ?_
          refine AList.c 38 rfl rfl rfl (OpJ.move rfl rfl) ?_
          refine AList.c 42 rfl rfl rfl (OpJ.extract rfl rfl rfl) ?_
          refine AList.c 43 rfl rfl rfl (OpJ.extract rfl rfl rfl) ?_
          refine AList.c 10 rfl rfl rfl (OpJ.allocOwn rfl zr25 rfl) ?_
          refine AList.c0 rfl rfl (OpJ.store rfl rfl rfl rfl rfl ty25 rfl rfl) ?_
          refine AList.c 11 rfl rfl rfl (OpJ.assign rfl rfl) ?_
          refine AList.nil ?_
          refine AWp.seq ?_
          refine AWp.seq ?_
          refine AWp.region ?_
          refine AList.c 44 rfl rfl rfl (OpJ.move rfl rfl) ?_
          refine AList.c 45 rfl rfl rfl (OpJ.neq rfl rfl rfl) ?_
          refine AList.nil ?_
          refine AWp.cond _ rfl (fun hc4 => ?_) (fun hc4 => ?_)
          · skip
            have e : (blackR c l).2 ≠ 0 := by simpa using hc4
            refine AWp.seq ?_
            refine AWp.region ?_
            refine AList.c 46 rfl rfl rfl (OpJ.move rfl rfl) ?_
            refine AList.c 6 rfl rfl rfl (OpJ.assign rfl rfl) ?_
            refine AList.c 7 rfl rfl rfl (OpJ.assign rfl rfl) ?_
            refine AList.nil ?_
            refine AWp.to (To.nilIs 6 rfl) ?_
            refine AWp.ret ?_
            have eE : hasE c s l = (blackR c l).2 := by rw [hasE_eq, if_pos hC, if_neg (by omega), if_pos hV]
            have eR : hasR c s l = ([], (blackR c l).2) := by unfold hasR; rw [if_neg (by rw [eE]; exact e), eE]
            rw [eR]
            exact Fin.many (xs := [intsV [], .int .i64 (blackR c l).2]) rfl (⟨_, _, rfl, rfl, ⟨_, _, rfl, rfl, rfl⟩⟩) rfl
          · skip
            have e : (blackR c l).2 = 0 := by simpa using hc4
            rw [blackR_fst e]
            refine AWp.skip ?_
            refine AWp.seq ?_
            refine AWp.region ?_
            refine AList.c 12 rfl rfl rfl (OpJ.assign rfl rfl) ?_
            refine AList.nil ?_
            refine AWp.seq ?_
            refine AWp.seq ?_
            refine AWp.region ?_
            refine AList.c 13 rfl rfl rfl (OpJ.assign rfl rfl) ?_
            refine AList.nil ?_
            refine AWp.block ?_
            refine AWp.loopHL [1, 5, 6, 10, 84] (fun g => [(13, .p (.int .i64 ((g : Nat) : Int))), (12, accV 1 (idxs (fun i => hasQ c (sh s i) l) g).length)]) (fun g => [.cells [.p (.int .i64 (blk c l).1), .p (.int .i64 (blk c l).2)] 25, accB (((idxs (fun i => hasQ c (sh s i) l) g).flatMap i1).map .p) 3 (idxs (fun i => hasQ c (sh s i) l) g).length]) (fun g => g ≤ s.length) (fun g => s.length - g) 0 (Nat.zero_le _) (To.pad.trans (To.sub (Sub.chk (Sub.cons rfl (Sub.cons rfl Sub.nil))))) (fun i hg => ?_)
            refine AWp.seq ?_
            refine AWp.seq ?_
            refine AWp.region ?_
            refine AList.c 47 rfl rfl rfl (OpJ.move rfl rfl) ?_
            refine AList.c 48 rfl rfl rfl (OpJ.move rfl rfl) ?_
            refine AList.c 49 rfl rfl rfl (OpJ.lenSlice rfl rfl sl23 rfl) ?_
            refine AList.c 50 rfl rfl rfl (OpJ.lss rfl rfl rfl) ?_
            refine AList.nil ?_
            refine AWp.cond _ rfl (fun hc5 => ?_) (fun hc5 => ?_)
            · skip
              have hk1 : i < s.length := by have h := of_decide_eq_true hc5; omega
              have il := idxs_len (fun i => hasQ c (sh s i) l) i
              refine AWp.skip ?_
              refine AWp.seq ?_
              refine AWp.block ?_
              refine AWp.seq ?_
              refine AWp.regionDraw 27 mixed (by kernel_rfl) (by decide) ?_
              refine AQuiet.cons 53 rfl rfl rfl (OpJ.load rfl rfl ty25 rfl) ?_
              refine AQuiet.cons 54 rfl rfl rfl (OpJ.move rfl rfl) ?_
              refine AQuiet.cons 55 rfl rfl rfl (OpJ.move rfl rfl) ?_
              refine AQuiet.cons 56 rfl rfl rfl (OpJ.indexG (g := sh s) (fun _ h => sh_get h) rfl rfl rfl sl23 el23 rfl (fun _ => rfl) (by decide) hk1) ?_
              refine AQuiet.cons 57 rfl rfl rfl (OpJ.fieldAddr rfl rfl fd66_0 rfl) ?_
              refine AQuiet.cons 58 rfl rfl rfl (OpJ.load rfl rfl ty25 rfl) ?_
              refine AQuiet.cons 59 rfl rfl rfl (OpJ.callP (rwithin_ok _ _ _ _) rfl rfl rfl rfl rf46) ?_
              refine AQuiet.cons 60 rfl rfl rfl (OpJ.move rfl rfl) ?_
              refine AQuiet.guard 61 60 rfl rfl rfl rfl rfl rfl rfl [(5, _)] (fun h => And.intro (.inl rfl) (trivial)) (fun h => (OpJ.fieldAddr rfl rfl fd28_4 rfl)) ?_
              refine AQuiet.guard 62 60 rfl rfl rfl rfl rfl rfl rfl [(61, _)] (fun h => And.intro (.inr ⟨_, rfl, h⟩) (trivial)) (fun h => (OpJ.load rfl rfl ty25 rfl)) ?_
              refine AQuiet.guard 63 60 rfl rfl rfl rfl rfl rfl rfl [(1, _)] (fun h => And.intro (.inl rfl) (trivial)) (fun h => (OpJ.move rfl rfl)) ?_
              refine AQuiet.guard 64 60 rfl rfl rfl rfl rfl rfl rfl [(13, _)] (fun h => And.intro (.inl rfl) (trivial)) (fun h => (OpJ.move rfl rfl)) ?_
              refine AQuiet.guard 65 60 rfl rfl rfl rfl rfl rfl rfl [(63, _), (64, _)] (fun h => And.intro (.inr ⟨_, rfl, h⟩) (And.intro (.inr ⟨_, rfl, h⟩) (trivial))) (fun h => (OpJ.indexG (g := sh s) (fun _ h => sh_get h) rfl rfl rfl sl23 el23 rfl (fun _ => rfl) (by decide) hk1)) ?_
              refine AQuiet.guard 66 60 rfl rfl rfl rfl rfl rfl rfl [(65, _)] (fun h => And.intro (.inr ⟨_, rfl, h⟩) (trivial)) (fun h => (OpJ.fieldAddr rfl rfl fd66_1 rfl)) ?_
              refine AQuiet.guard 67 60 rfl rfl rfl rfl rfl rfl rfl [(66, _)] (fun h => And.intro (.inr ⟨_, rfl, h⟩) (trivial)) (fun h => (OpJ.load rfl rfl ty25 rfl)) ?_
              refine AQuiet.guard 68 60 rfl rfl rfl rfl rfl rfl rfl [(62, _), (67, _)] (fun h => And.intro (.inr ⟨_, rfl, h⟩) (And.intro (.inr ⟨_, rfl, h⟩) (trivial))) (fun h => (OpJ.callP (rwithin_ok _ _ _ _) rfl rfl rfl rfl rf46)) ?_
              refine AQuiet.cons 69 rfl rfl rfl (OpJ.and_ rfl rfl rfl ?_) ?_
              · first | (intro h; rw [h]; rfl) | (intro h; simp_all)
              refine AQuiet.cons 70 rfl rfl rfl (OpJ.move rfl rfl) ?_
              refine AQuiet.guard 71 70 rfl rfl rfl rfl rfl rfl rfl [(5, _)] (fun h => And.intro (.inl rfl) (trivial)) (fun h => (OpJ.fieldAddr rfl rfl fd28_5 rfl)) ?_
              refine AQuiet.guard 72 70 rfl rfl rfl rfl rfl rfl rfl [(71, _)] (fun h => And.intro (.inr ⟨_, rfl, h⟩) (trivial)) (fun h => (OpJ.load rfl rfl ty25 rfl)) ?_
              refine AQuiet.guard 73 70 rfl rfl rfl rfl rfl rfl rfl [(1, _)] (fun h => And.intro (.inl rfl) (trivial)) (fun h => (OpJ.move rfl rfl)) ?_
              refine AQuiet.guard 74 70 rfl rfl rfl rfl rfl rfl rfl [(13, _)] (fun h => And.intro (.inl rfl) (trivial)) (fun h => (OpJ.move rfl rfl)) ?_
              refine AQuiet.guard 75 70 rfl rfl rfl rfl rfl rfl rfl [(73, _), (74, _)] (fun h => And.intro (.inr ⟨_, rfl, h⟩) (And.intro (.inr ⟨_, rfl, h⟩) (trivial))) (fun h => (OpJ.indexG (g := sh s) (fun _ h => sh_get h) rfl rfl rfl sl23 el23 rfl (fun _ => rfl) (by decide) hk1)) ?_
              refine AQuiet.guard 76 70 rfl rfl rfl rfl rfl rfl rfl [(75, _)] (fun h => And.intro (.inr ⟨_, rfl, h⟩) (trivial)) (fun h => (OpJ.fieldAddr rfl rfl fd66_2 rfl)) ?_
              refine AQuiet.guard 77 70 rfl rfl rfl rfl rfl rfl rfl [(76, _)] (fun h => And.intro (.inr ⟨_, rfl, h⟩) (trivial)) (fun h => (OpJ.load rfl rfl ty25 rfl)) ?_
              refine AQuiet.guard 78 70 rfl rfl rfl rfl rfl rfl rfl [(72, _), (77, _)] (fun h => And.intro (.inr ⟨_, rfl, h⟩) (And.intro (.inr ⟨_, rfl, h⟩) (trivial))) (fun h => (OpJ.callP (rwithin_ok _ _ _ _) rfl rfl rfl rfl rf46)) ?_
              refine AQuiet.cons 79 rfl rfl rfl (OpJ.and_ rfl rfl rfl ?_) ?_
              · first | (intro h; rw [h]; rfl) | (intro h; simp_all)
              refine AQuiet.nil ?_
              refine AList.nil ?_
              refine AWp.cond _ rfl (fun hc6 => ?_) (fun hc6 => ?_)
              · skip
                have hQ : hasQ c (sh s i) l = true := decide_eq_true (by simp at hc6; omega)
                refine AWp.region ?_
                refine AList.c 80 rfl rfl rfl (OpJ.move rfl rfl) ?_
                refine AList.c 81 rfl rfl rfl (OpJ.move rfl rfl) ?_
                refine AList.c 82 rfl rfl rfl (OpJ.buildImm rfl slz34 (by decide) rfl rfl rfl) ?_
                refine AList.c 83 rfl rfl rfl (OpJ.appendAcc rfl rfl rfl slz34 sl34 rfl ?_ rfl (by decide) rfl by3 (by decide) ?_) ?_
                · rw [List.length_map, flat_len (c := 1) (fun _ => rfl)]; rfl
                · show (2 * ((idxs (fun i => hasQ c (sh s i) l) i).length + 1) + 192) * 8 ≤ 281474976710656; omega
                refine AList.c 12 rfl rfl rfl (OpJ.assign rfl rfl) ?_
                refine AList.nil ?_
                refine AWp.region ?_
                refine AList.c 51 rfl rfl rfl (OpJ.move rfl rfl) ?_
                refine AList.c 52 rfl rfl rfl (OpJ.add rfl rfl rfl (i64ok ?_)) ?_
                · omega
                refine AList.c 13 rfl rfl rfl (OpJ.assign rfl rfl) ?_
                refine AList.nil ?_
                refine ⟨i + 1, ?_, ?_, ?_⟩
                · omega
                · omega
                have eo : idxs (fun i => hasQ c (sh s i) l) (i + 1) = idxs (fun i => hasQ c (sh s i) l) i ++ [(i : Int)] := by simp only [idxs]; rw [if_pos hQ]
                rw [eo, List.length_append]
                refine To.done [0, 2] rfl (by repeat (first | exact Sub.nil | refine Sub.cons rfl ?_)) ?_
                show [_, Blk.row (renL _ (_ ++ _)) _] = [_, Blk.row _ _]
                rw [renL_app, renL_pure, List.flatMap_append, List.map_append]
                rfl
              · skip
                have hQ : hasQ c (sh s i) l = false := decide_eq_false (by simp at hc6; intro h; omega)
                refine AWp.skip ?_
                refine AWp.region ?_
                refine AList.c 51 rfl rfl rfl (OpJ.move rfl rfl) ?_
                refine AList.c 52 rfl rfl rfl (OpJ.add rfl rfl rfl (i64ok ?_)) ?_
                · omega
                refine AList.c 13 rfl rfl rfl (OpJ.assign rfl rfl) ?_
                refine AList.nil ?_
                refine ⟨i + 1, ?_, ?_, ?_⟩
                · omega
                · omega
                have eo : idxs (fun i => hasQ c (sh s i) l) (i + 1) = idxs (fun i => hasQ c (sh s i) l) i := by simp only [idxs]; rw [if_neg (by rw [hQ]; decide)]
                rw [eo]
                refine To.done [0, 1] rfl (Sub.cons rfl (Sub.cons (by show some (renV _ (accV 1 _)) = some _; rw [renV_acc (σ := pl [0, 1]) (j := 1) rfl]) (by repeat (first | exact Sub.nil | refine Sub.cons rfl ?_)))) (by show [_, renB _ (accB _ _ _)] = _; rw [renB_accB]; rfl)
            · skip
              obtain rfl : i = s.length := by have h := of_decide_eq_false hc5; omega
              refine AWp.exit ?_
              refine AWp.seq ?_
              refine AWp.region ?_
              refine AList.c 84 rfl rfl rfl (OpJ.move rfl rfl) ?_
              refine AList.c 6 rfl rfl rfl (OpJ.assign rfl rfl) ?_
              refine AList.c 7 rfl rfl rfl (OpJ.assign rfl rfl) ?_
              refine AList.nil ?_
              refine AWp.to (To.accD 6 1 (idxs (fun i => hasQ c (sh s i) l) s.length).length rfl rfl (fun h => by rw [List.length_eq_zero_iff.1 h]; rfl)) ?_
              refine AWp.ret ?_
              have eE : hasE c s l = 0 := by rw [hasE_eq, if_pos hC, if_neg (by omega), if_pos hV, e]
              have eR : hasR c s l = ((idxs (fun i => hasQ c (sh s i) l) s.length), 0) := by unfold hasR; rw [if_pos eE]
              rw [eR]
              exact Fin.many (xs := [intsV (idxs (fun i => hasQ c (sh s i) l) s.length), .int .i64 0]) rfl (⟨_, _, rfl, rfl, ⟨_, _, rfl, rfl, rfl⟩⟩) rfl
theorem ints_ok (a b : List Int) (ha : a.length ≤ bigN) (hb : b.length ≤ bigN) : Pure Try.prog 19 [intsV a, intsV b] (.bool (decide (a = b))) := by
  unfold bigN at ha hb
  refine Pure.start (N := 26) Try.func19 rfl rfl (Nat.le_of_ble_eq_true rfl) ?_
  refine AWp.seq ?_
  refine AWp.region ?_
  refine AList.c 4 rfl rfl rfl (OpJ.assign rfl rfl) ?_
  refine AList.nil ?_
  refine AWp.seq ?_
  refine AWp.seq ?_
  refine AWp.region ?_
  refine AList.c 6 rfl rfl rfl (OpJ.move rfl rfl) ?_
  refine AList.c 7 rfl rfl rfl (OpJ.lenSlice rfl rfl sl34 rfl) ?_
  refine AList.c 8 rfl rfl rfl (OpJ.move rfl rfl) ?_
  refine AList.c 9 rfl rfl rfl (OpJ.lenSlice rfl rfl sl34 rfl) ?_
  refine AList.c 10 rfl rfl rfl (OpJ.neq rfl rfl rfl) ?_
  refine AList.nil ?_
  refine AWp.cond _ rfl (fun hc0 => ?_) (fun hc0 => ?_)
  · skip
    refine AWp.seq ?_
    refine AWp.region ?_
    refine AList.c 4 rfl rfl rfl (OpJ.assign rfl rfl) ?_
    refine AList.nil ?_
    refine AWp.ret ?_
    refine Fin.oneE rfl rfl ?_
    rw [decide_eq_false (p := a = b) (fun h => by subst h; simp at hc0)]
  · skip
    have hl : a.length = b.length := by simp at hc0; omega
    refine AWp.skip ?_
    refine AWp.seq ?_
    refine AWp.seq ?_
    refine AWp.region ?_
    refine AList.c 5 rfl rfl rfl (OpJ.assign rfl rfl) ?_
    refine AList.nil ?_
    refine AWp.block ?_
    refine AWp.loopKL [0, 1] (fun g => [(5, .p (.int .i64 ((g : Nat) : Int)))]) (fun g => g ≤ a.length ∧ ∀ j, j < g → nt a j = nt b j) (fun g => a.length - g) 0 ⟨Nat.zero_le _, fun j hj => absurd hj (by omega)⟩ (Sub.cons rfl (Sub.nil)) (fun i hg => ?_)
    obtain ⟨hg1, hg2⟩ := hg
    refine AWp.seq ?_
    refine AWp.seq ?_
    refine AWp.region ?_
    refine AList.c 11 rfl rfl rfl (OpJ.move rfl rfl) ?_
    refine AList.c 12 rfl rfl rfl (OpJ.move rfl rfl) ?_
    refine AList.c 13 rfl rfl rfl (OpJ.lenSlice rfl rfl sl34 rfl) ?_
    refine AList.c 14 rfl rfl rfl (OpJ.lss rfl rfl rfl) ?_
    refine AList.nil ?_
    refine AWp.cond _ rfl (fun hc1 => ?_) (fun hc1 => ?_)
    · skip
      have hk0 : i < a.length := by have h := of_decide_eq_true hc1; omega
      refine AWp.skip ?_
      refine AWp.seq ?_
      refine AWp.block ?_
      refine AWp.seq ?_
      refine AWp.regionDraw 9 mixed (by kernel_rfl) (by decide) ?_
      refine AQuiet.cons 17 rfl rfl rfl (OpJ.move rfl rfl) ?_
      refine AQuiet.cons 18 rfl rfl rfl (OpJ.move rfl rfl) ?_
      refine AQuiet.cons 19 rfl rfl rfl (OpJ.indexG (g := nt a) (fun _ h => nt_get h) rfl rfl rfl sl34 el34 rfl (fun _ => rfl) (by decide) hk0) ?_
      refine AQuiet.cons 20 rfl rfl rfl (OpJ.load rfl rfl ty3 rfl) ?_
      refine AQuiet.cons 21 rfl rfl rfl (OpJ.move rfl rfl) ?_
      refine AQuiet.cons 22 rfl rfl rfl (OpJ.move rfl rfl) ?_
      refine AQuiet.cons 23 rfl rfl rfl (OpJ.indexG (g := nt b) (fun _ h => nt_get h) rfl rfl rfl sl34 el34 rfl (fun _ => rfl) (by decide) (by omega)) ?_
      refine AQuiet.cons 24 rfl rfl rfl (OpJ.load rfl rfl ty3 rfl) ?_
      refine AQuiet.cons 25 rfl rfl rfl (OpJ.neq rfl rfl rfl) ?_
      refine AQuiet.nil ?_
      refine AList.nil ?_
      refine AWp.cond _ rfl (fun hc2 => ?_) (fun hc2 => ?_)
      · skip
        refine AWp.seq ?_
        refine AWp.region ?_
        refine AList.c 4 rfl rfl rfl (OpJ.assign rfl rfl) ?_
        refine AList.nil ?_
        refine AWp.ret ?_
        refine Fin.oneE rfl rfl ?_
        rw [decide_eq_false (p := a = b) (fun h => by subst h; simp at hc2)]
      · skip
        have hst : nt a i = nt b i := by simpa using hc2
        refine AWp.skip ?_
        refine AWp.region ?_
        refine AList.c 15 rfl rfl rfl (OpJ.move rfl rfl) ?_
        refine AList.c 16 rfl rfl rfl (OpJ.add rfl rfl rfl (i64ok ?_)) ?_
        · omega
        refine AList.c 5 rfl rfl rfl (OpJ.assign rfl rfl) ?_
        refine AList.nil ?_
        refine ⟨i + 1, ?_, ?_, ?_⟩
        · refine ⟨by omega, fun j hj => ?_⟩
          rcases Nat.lt_succ_iff_lt_or_eq.1 hj with h1 | rfl
          · exact hg2 j h1
          · exact hst
        · omega
        exact To.done [] rfl (by repeat (first | exact Sub.nil | refine Sub.cons rfl ?_)) rfl
    · skip
      obtain rfl : i = a.length := by have h := of_decide_eq_false hc1; omega
      refine AWp.exit ?_
      refine AWp.seq ?_
      refine AWp.region ?_
      refine AList.c 4 rfl rfl rfl (OpJ.assign rfl rfl) ?_
      refine AList.nil ?_
      refine AWp.ret ?_
      refine Fin.oneE rfl rfl ?_
      rw [decide_eq_true (p := a = b) (nt_ext hl hg2)]
theorem great_ok (c : List Tnt) (ls : List Lds) (hcb : c.length ≤ bigN) (hb : ls.length ≤ bigN) (hs : ∀ x ∈ ls, x.st.length ≤ bigN) : Pure Try.prog 13 [curV c, ldsV ls] (.bool (grtB c ls)) := by
  unfold bigN at hb
  refine Pure.start (N := 26) Try.func13 rfl rfl (Nat.le_of_ble_eq_true rfl) ?_
  refine AWp.seq ?_
  refine AWp.region ?_
  refine AList.c 4 rfl rfl rfl (OpJ.assign rfl rfl) ?_
  refine AList.nil ?_
  refine AWp.seq ?_
  refine AWp.seq ?_
  refine AWp.region ?_
  refine AList.c 7 rfl rfl rfl (OpJ.move rfl rfl) ?_
  refine AList.c 8 rfl rfl rfl (OpJ.lenSlice rfl rfl sl39 rfl) ?_
  refine AList.c 9 rfl rfl rfl (OpJ.move rfl rfl) ?_
  refine AList.nil ?_
  refine AWp.block ?_
  refine AWp.loopHL [0, 1, 7, 8, 18, 19, 20, 21, 22, 23, 24, 25] (fun g => [(9, .p (.int .i64 ((g : Nat) : Int)))]) (fun g => []) (fun g => g ≤ ls.length ∧ ∀ j, j < g → (ld ls j).st.length ≤ 12) (fun g => ls.length - g) 0 ⟨Nat.zero_le _, fun j hj => absurd hj (by omega)⟩ (To.sub (Sub.chk (Sub.cons rfl (Sub.nil)))) (fun i hg => ?_)
  obtain ⟨hg1, hg2⟩ := hg
  refine AWp.seq ?_
  refine AWp.region ?_
  refine AList.c 10 rfl rfl rfl (OpJ.lss rfl rfl rfl) ?_
  refine AList.nil ?_
  refine AWp.seq ?_
  refine AWp.cond _ rfl (fun hc0 => ?_) (fun hc0 => ?_)
  · skip
    have hk0 : i < ls.length := by have h := of_decide_eq_true hc0; omega
    refine AWp.skip ?_
    refine AWp.seq ?_
    refine AWp.block ?_
    refine AWp.seq ?_
    refine AWp.region ?_
    refine AList.c 11 rfl rfl rfl (OpJ.indexG (g := ld ls) (fun _ h => ld_get h) rfl rfl rfl sl39 el39 rfl (fun _ => rfl) (by decide) hk0) ?_
    refine AList.c 12 rfl rfl rfl (OpJ.load (v := .p (ldV (ld ls i))) rfl rfl ty28 rfl) ?_
    refine AList.c 6 rfl rfl rfl (OpJ.allocOwn rfl zr28 rfl) ?_
    refine AList.c0 rfl rfl (OpJ.store (H' := [.cells ((ld ls i).cells.map .p) 28]) rfl rfl rfl rfl rfl ty28 rfl rfl) ?_
    refine AList.nil ?_
    refine AWp.seq ?_
    refine AWp.region ?_
    refine AList.c 13 rfl rfl rfl (OpJ.fieldAddr rfl rfl fd28_3 rfl) ?_
    refine AList.c 14 rfl rfl rfl (OpJ.load rfl rfl ty26 rfl) ?_
    refine AList.c 15 rfl rfl rfl (OpJ.lenSlice rfl rfl sl26 rfl) ?_
    refine AList.c 16 rfl rfl rfl (OpJ.gtr rfl rfl rfl) ?_
    refine AList.nil ?_
    refine AWp.cond _ rfl (fun hc1 => ?_) (fun hc1 => ?_)
    · skip
      have hst : 12 < (ld ls i).st.length := by have h := of_decide_eq_true hc1; omega
      refine AWp.seq ?_
      refine AWp.region ?_
      refine AList.c 4 rfl rfl rfl (OpJ.assign rfl rfl) ?_
      refine AList.nil ?_
      refine AWp.ret ?_
      refine Fin.oneE rfl rfl ?_
      unfold grtB
      rw [List.any_eq_true.2 ⟨_, ld_mem hk0, decide_eq_true hst⟩]; rfl
    · skip
      have hst : (ld ls i).st.length ≤ 12 := by have h := of_decide_eq_false hc1; omega
      refine AWp.skip ?_
      refine AWp.region ?_
      refine AList.c 17 rfl rfl rfl (OpJ.add rfl rfl rfl (i64ok ?_)) ?_
      · omega
      refine AList.c 9 rfl rfl rfl (OpJ.move rfl rfl) ?_
      refine AList.nil ?_
      refine ⟨i + 1, ?_, ?_, ?_⟩
      · refine ⟨by omega, fun j hj => ?_⟩
        rcases Nat.lt_succ_iff_lt_or_eq.1 hj with h1 | rfl
        · exact hg2 j h1
        · exact hst
      · omega
      exact To.done [] rfl (by repeat (first | exact Sub.nil | refine Sub.cons rfl ?_)) rfl
  · skip
    obtain rfl : i = ls.length := by have h := of_decide_eq_false hc0; omega
    refine AWp.exit ?_
    refine AWp.seq ?_
    refine AWp.region ?_
    refine AList.c 18 rfl rfl rfl (OpJ.move rfl rfl) ?_
    refine AList.c 19 rfl rfl rfl (OpJ.lenSlice rfl rfl sl22 rfl) ?_
    refine AList.c 20 rfl rfl rfl (OpJ.gtr rfl rfl rfl) ?_
    refine AList.c 21 rfl rfl rfl (OpJ.move rfl rfl) ?_
    refine AList.g 22 21 rfl rfl rfl rfl rfl rfl rfl [(1, _)] (fun h => And.intro (.inl rfl) (trivial)) (fun h => (OpJ.move rfl rfl)) ?_
    refine AList.g 23 21 rfl rfl rfl rfl rfl rfl rfl [(22, _)] (fun h => And.intro (.inr ⟨_, rfl, h⟩) (trivial)) (fun h => (OpJ.lenSlice rfl rfl sl39 rfl)) ?_
    refine AList.g 24 21 rfl rfl rfl rfl rfl rfl rfl [(23, _)] (fun h => And.intro (.inr ⟨_, rfl, h⟩) (trivial)) (fun h => (OpJ.gtr rfl rfl rfl)) ?_
    refine AList.c 25 rfl rfl rfl (OpJ.or_ rfl rfl rfl ?_) ?_
    · first | (intro h; rw [h]; rfl) | (intro h; simp_all)
    refine AList.c 4 rfl rfl rfl (OpJ.assign rfl rfl) ?_
    refine AList.nil ?_
    refine AWp.ret ?_
    refine Fin.oneE rfl rfl ?_
    unfold grtB
    rw [grt_no (fun x hx => by obtain ⟨j, hj, rfl⟩ := List.getElem_of_mem hx; rw [ld_get hj]; exact hg2 j hj), Bool.false_or, dec14, dec16]
end Go.Proofs.Ythiapodcippnoaa
