/-
  The law ShadeOwns.
-/
import Derived.Test.YthiapodcippnoaaSdFactsM
import Derived.Test.YthiapodcippnoaaSd9
import Derived.Test.YthiapodcippnoaaSdL
import Derived.Test.YthiapodcippnoaaAfP
set_option linter.unusedVariables false
set_option maxRecDepth 100000
set_option maxHeartbeats 4000000
set_option linter.unusedSimpArgs false
namespace Go.Proofs.Ythiapodcippnoaa
open Go.AF
theorem oneAll {α : Type} {f : α → List PV} (h : ∀ x, (((f x).map V.p).all oneV) = true) (l : List α) : (((l.flatMap f).map V.p).all oneV) = true := by
  induction l with
  | nil => rfl
  | cons x l ih => rw [List.flatMap_cons, List.map_append, List.all_append, h x, ih]; rfl
theorem scInts (l : List Int) : scL (l.flatMap i1) = true := by
  induction l with
  | nil => rfl
  | cons x l ih => rw [List.flatMap_cons]; exact ih
theorem frzV_acc {i j : Nat} (h : j ≠ i) (xs : List PV) : ∀ n, frzV i xs (accV j n) = accV j n
  | 0 => rfl
  | n + 1 => by simp only [accV, frzV, if_neg h]
def negL (l : List Int) (g : Nat) : List Int := List.replicate g (-1) ++ l.drop g
theorem negL_len {l : List Int} {g : Nat} (h : g ≤ l.length) : (negL l g).length = l.length := by
  unfold negL
  rw [List.length_append, List.length_replicate, List.length_drop]; omega
theorem negL_set {l : List Int} {g : Nat} (h : g < l.length) : (negL l g).set g (-1) = negL l (g + 1) := by
  unfold negL
  rw [List.set_append_right _ _ (by rw [List.length_replicate]; exact Nat.le_refl _), List.length_replicate, Nat.sub_self, List.drop_eq_getElem_cons h, List.replicate_succ', List.append_assoc]
  rfl
theorem cutR_9 (c : List Tnt) (ls : List Lds) (s : Scl) : (cutR c ls s).1.length ≤ 9 := by
  unfold cutR
  split
  · rename_i h
    have hz := ((sclB_iff s).1 (openE_zero.1 h).ov).n
    split
    · rw [cutL_len]; omega
    · exact Nat.zero_le _
  · exact Nat.zero_le _
theorem copyC (c : List Tnt) : V.p (.is (c.flatMap Tnt.cells) (0 + c.length)) = V.p (curV c) := by rw [Nat.zero_add]; rfl
theorem copyK (l : List Stk) : V.p (.is (l.flatMap Stk.cells) (0 + l.length)) = V.p (stV l) := by rw [Nat.zero_add]; rfl
theorem copyS (s : List Shd) : V.p (.is (s.flatMap Shd.cells) (0 + s.length)) = V.p (shdV s) := by rw [Nat.zero_add]; rfl
theorem has_O (c : List Tnt) (s : List Shd) (l : Lds) (hcb : c.length ≤ bigN) (hsl : s.length ≤ bigN) (hs : l.st.length ≤ bigN) : ACalls Try.prog 17 ([curV c, shdV s, ldV l].map .p) [] fun v H' => v = tupOf (accV 0 (hasR c s l).1.length :: [PV.int .i64 (hasR c s l).2].map .p) ∧ H' = [accB (((hasR c s l).1.flatMap i1).map .p) 3 (hasR c s l).1.length] := by
  have hsl2 := hsl
  unfold bigN at hsl2
  refine ACalls.start (N := 74) Try.func17 rfl rfl (Nat.le_of_ble_eq_true rfl) ?_
  refine AWp.seq ?_
  refine AWp.region ?_
  refine AList.c 5 rfl rfl rfl (OpJ.boxImm rfl rfl rfl) ?_
  refine AList.c 6 rfl rfl rfl (OpJ.assign rfl rfl) ?_
  refine AList.c 7 rfl rfl rfl (OpJ.assign rfl rfl) ?_
  refine AList.nil ?_
  refine AWp.seq ?_
  refine AWp.region ?_
  refine AList.c 8 rfl rfl rfl (OpJ.assign rfl rfl) ?_
  refine AList.nil ?_
  refine AWp.seq ?_
  refine AWp.seq ?_
  refine AWp.region ?_
  refine AList.c 13 rfl rfl rfl (OpJ.move rfl rfl) ?_
  refine AList.c 14 rfl rfl rfl (OpJ.callP (isCurve_ok c hcb) rfl rfl rfl rfl rf42) ?_
  refine AList.c 15 rfl rfl rfl (OpJ.move rfl rfl) ?_
  refine AList.g 16 15 rfl rfl rfl rfl rfl rfl rfl [(1, _)] (fun h => And.intro (.inl rfl) (trivial)) (fun h => (OpJ.move rfl rfl)) ?_
  refine AList.g 17 15 rfl rfl rfl rfl rfl rfl rfl [(16, _)] (fun h => And.intro (.inr ⟨_, rfl, h⟩) (trivial)) (fun h => (OpJ.lenSlice rfl rfl sl23 rfl)) ?_
  refine AList.g 18 15 rfl rfl rfl rfl rfl rfl rfl [(17, _)] (fun h => And.intro (.inr ⟨_, rfl, h⟩) (trivial)) (fun h => (OpJ.gtr rfl rfl rfl)) ?_
  refine AList.c 19 rfl rfl rfl (OpJ.and_ rfl rfl rfl ?_) ?_
  · first | (intro h; rw [h]; rfl) | (intro h; simp_all)
  refine AList.nil ?_
  refine AWp.cond _ rfl (fun hc0 => ?_) (fun hc0 => ?_)
  · skip
    have hE : okC c ∧ 8 < s.length := by simp at hc0; exact ⟨hc0.1, by omega⟩
    refine AWp.seq ?_
    refine AWp.region ?_
    refine AList.c 6 rfl rfl rfl (OpJ.assign rfl rfl) ?_
    refine AList.c 7 rfl rfl rfl (OpJ.assign rfl rfl) ?_
    refine AList.nil ?_
    refine AWp.to ((To.done [] (S := [(6, .p .nilSlice), (7, .p (.int .i64 3))]) rfl (Sub.cons rfl (Sub.cons rfl (Sub.nil))) rfl).trans To.pad) ?_
    refine AWp.ret ?_
    have eE : hasE c s l = 3 := by unfold hasE; rw [if_pos hE]
    have eR : hasR c s l = ([], 3) := by unfold hasR; rw [if_neg (by rw [eE]; decide), eE]
    rw [eR]
    exact ⟨.inr rfl, _, resV.many (vs := [.p .nilSlice, .p (.int .i64 3)]) rfl (⟨_, _, rfl, rfl, ⟨_, _, rfl, rfl, rfl⟩⟩), rfl, rfl⟩
  · skip
    have hE : ¬ (okC c ∧ 8 < s.length) := by simp at hc0; intro h; have := hc0 h.1; omega
    refine AWp.skip ?_
    refine AWp.seq ?_
    refine AWp.regionDraw 13 mixed (by kernel_rfl) (by decide) ?_
    refine AQuiet.cons 21 rfl rfl rfl (OpJ.move rfl rfl) ?_
    refine AQuiet.cons 22 rfl rfl rfl (OpJ.load (v := .p (ldV l)) rfl rfl ty28 rfl) ?_
    refine AQuiet.cons 23 rfl rfl rfl (OpJ.buildImm rfl slz39 (by decide) rfl rfl rfl) ?_
    refine AQuiet.cons 24 rfl rfl rfl (OpJ.move rfl rfl) ?_
    refine AQuiet.cons 25 rfl rfl rfl (OpJ.move rfl rfl) ?_
    refine AQuiet.cons 26 rfl rfl rfl (OpJ.callP (containsFS_ok s _ (fun x => !shdB x) hsl (fun x hx => ⟨40, [.agg x.cells], rfl, rf40, has1_ok x⟩)) rfl rfl rfl rfl rf43) ?_
    refine AQuiet.cons 27 rfl rfl rfl (OpJ.not_ rfl rfl) ?_
    refine AQuiet.cons 28 rfl rfl rfl (OpJ.callP (open_ok c [l] 1 (!s.any fun x => !shdB x) (by omega) hcb (by unfold bigN; show 1 ≤ _; omega) (fun x hx => by simp at hx; subst hx; exact hs)) rfl rfl rfl rfl rf38) ?_
    refine AQuiet.cons 20 rfl rfl rfl (OpJ.move rfl rfl) ?_
    refine AQuiet.cons 29 rfl rfl rfl (OpJ.extract rfl rfl rfl) ?_
    refine AQuiet.cons 30 rfl rfl rfl (OpJ.extract rfl rfl rfl) ?_
    refine AQuiet.cons 9 rfl rfl rfl (OpJ.assign rfl rfl) ?_
    refine AQuiet.cons 7 rfl rfl rfl (OpJ.assign rfl rfl) ?_
    refine AQuiet.nil ?_
    refine AList.nil ?_
    refine AWp.seq ?_
    refine AWp.seq ?_
    refine AWp.region ?_
    refine AList.c 31 rfl rfl rfl (OpJ.move rfl rfl) ?_
    refine AList.c 32 rfl rfl rfl (OpJ.neq rfl rfl rfl) ?_
    refine AList.nil ?_
    refine AWp.cond _ rfl (fun hc1 => ?_) (fun hc1 => ?_)
    · skip
      have e : openE c [l] 1 (!s.any fun x => !shdB x) ≠ 0 := by simpa using hc1
      refine AWp.seq ?_
      refine AWp.region ?_
      refine AList.c 33 rfl rfl rfl (OpJ.move rfl rfl) ?_
      refine AList.c 6 rfl rfl rfl (OpJ.assign rfl rfl) ?_
      refine AList.c 7 rfl rfl rfl (OpJ.assign rfl rfl) ?_
      refine AList.nil ?_
      refine AWp.to ((To.done [] (S := [(6, .p .nilSlice), (7, .p (.int .i64 (openE c [l] 1 (!s.any fun x => !shdB x))))]) rfl (Sub.cons rfl (Sub.cons rfl (Sub.nil))) rfl).trans To.pad) ?_
      refine AWp.ret ?_
      have eE : hasE c s l = openE c [l] 1 (!s.any fun x => !shdB x) := by unfold hasE; rw [if_neg hE]
      have eR : hasR c s l = ([], openE c [l] 1 (!s.any fun x => !shdB x)) := by unfold hasR; rw [if_neg (by rw [eE]; exact e), eE]
      rw [eR]
      exact ⟨.inr rfl, _, resV.many (vs := [.p .nilSlice, .p (.int .i64 (openE c [l] 1 (!s.any fun x => !shdB x)))]) rfl (⟨_, _, rfl, rfl, ⟨_, _, rfl, rfl, rfl⟩⟩), rfl, rfl⟩
    · skip
      have e : openE c [l] 1 (!s.any fun x => !shdB x) = 0 := by simpa using hc1
      rw [openL_one e]
      have hO := openE_zero.1 e
      have hC := hO.oc
      have h8 : s.length ≤ 8 := by rcases Nat.lt_or_ge 8 s.length with h | h; { exact absurd ⟨hC, h⟩ hE }; { exact h }
      refine AWp.skip ?_
      refine AWp.seq ?_
      refine AWp.regionDrawC 11 mixed (by kernel_rfl) (by decide) ?_
      refine AQuietC.cons 34 rfl rfl rfl (OpJ.move rfl rfl) (fun _ => (OpJ.move rfl rfl)) ?_
      refine AQuietC.cons 35 rfl rfl rfl (OpJ.indexG (g := bc [toB c l]) (k := 0) (fun _ h => bc_get h) rfl rfl rfl sl86 el86 rfl (fun _ => rfl) (by decide) (Nat.lt_succ_self 0)) (fun _ => (OpJ.indexG (g := bc [toB c l]) (k := 0) (fun _ h => bc_get h) rfl rfl rfl sl86 el86 rfl (fun _ => rfl) (by decide) (Nat.lt_succ_self 0))) ?_
      refine AQuietC.cons 36 rfl rfl rfl (OpJ.fieldAddr rfl rfl fd90_1 rfl) (fun _ => (OpJ.fieldAddr rfl rfl fd90_1 rfl)) ?_
      refine AQuietC.cons 37 rfl rfl rfl (OpJ.load (v := .p (spV (blk c l))) rfl rfl ty25 rfl) (fun _ => (OpJ.load (v := .p (spV (blk c l))) rfl rfl ty25 rfl)) ?_
      refine AQuietC.cons 38 rfl rfl rfl (OpJ.fieldAddr rfl rfl fd28_4 rfl) (fun _ => (OpJ.fieldAddr rfl rfl fd28_4 rfl)) ?_
      refine AQuietC.cons 39 rfl rfl rfl (OpJ.load rfl rfl ty25 rfl) (fun _ => (OpJ.load rfl rfl ty25 rfl)) ?_
      refine AQuietC.cons 40 rfl rfl rfl (OpJ.fieldAddr rfl rfl fd28_5 rfl) (fun _ => (OpJ.fieldAddr rfl rfl fd28_5 rfl)) ?_
      refine AQuietC.cons 41 rfl rfl rfl (OpJ.load rfl rfl ty25 rfl) (fun _ => (OpJ.load rfl rfl ty25 rfl)) ?_
      refine AQuietC.cons 42 rfl rfl rfl (OpJ.buildR (v := .p (.agg (ownS c l).cells)) rfl bd66 rfl rfl rfl) (fun _ => (OpJ.buildR (v := .p (.agg (ownS c l).cells)) rfl bd66 rfl rfl rfl)) ?_
      refine AQuietC.lay 10 rfl rfl rfl (OpJ.allocOwn rfl zr66 rfl) ?_
      refine AQuietC.put (blk2 := .cells ((ownS c l).cells.map .p) 66) rfl rfl (by decide) (OpJ.store rfl rfl rfl rfl rfl ty66 rfl rfl) rfl ?_
      refine AQuietC.nil ?_
      refine AList.nil ?_
      refine AWp.seq ?_
      refine AWp.seq ?_
      refine AWp.region ?_
      refine AList.c 43 rfl rfl rfl (OpJ.move rfl rfl) ?_
      refine AList.c 44 rfl rfl rfl (OpJ.lenSlice rfl rfl sl23 rfl) ?_
      refine AList.c 45 rfl rfl rfl (OpJ.move rfl rfl) ?_
      refine AList.nil ?_
      refine AWp.block ?_
      refine AWp.loopHL [10, 43, 44, 73] (fun g => [(45, .p (.int .i64 ((g : Nat) : Int))), (6, accV 1 (idxs (fun i => hasQ c (sh s i) l) g).length)]) (fun g => [.cells ((ownS c l).cells.map .p) 66, accB (((idxs (fun i => hasQ c (sh s i) l) g).flatMap i1).map .p) 3 (idxs (fun i => hasQ c (sh s i) l) g).length]) (fun g => g ≤ s.length) (fun g => s.length - g) 0 (Nat.zero_le _) (To.pad.trans (To.sub (Sub.chk (Sub.cons rfl (Sub.cons rfl Sub.nil))))) (fun i hg => ?_)
      refine AWp.seq ?_
      refine AWp.region ?_
      refine AList.c 46 rfl rfl rfl (OpJ.lss rfl rfl rfl) ?_
      refine AList.nil ?_
      refine AWp.seq ?_
      refine AWp.cond _ rfl (fun hc2 => ?_) (fun hc2 => ?_)
      · skip
        have hk0 : i < s.length := by have h := of_decide_eq_true hc2; omega
        have il := idxs_len (fun i => hasQ c (sh s i) l) i
        refine AWp.skip ?_
        refine AWp.seq ?_
        refine AWp.block ?_
        refine AWp.seq ?_
        refine AWp.region ?_
        refine AList.c 47 rfl rfl rfl (OpJ.move rfl rfl) ?_
        refine AList.c 48 rfl rfl rfl (OpJ.indexG (g := sh s) (fun _ h => sh_get h) rfl rfl rfl sl23 el23 rfl (fun _ => rfl) (by decide) hk0) ?_
        refine AList.c 49 rfl rfl rfl (OpJ.load (v := .p (.agg (sh s i).cells)) rfl rfl ty66 rfl) ?_
        refine AList.c 12 rfl rfl rfl (OpJ.allocOwn rfl zr66 rfl) ?_
        refine AList.c 11 rfl rfl rfl (OpJ.assign rfl rfl) ?_
        refine AList.c0 rfl rfl (OpJ.store (H' := [.cells ((ownS c l).cells.map .p) 66, accB (((idxs (fun i => hasQ c (sh s i) l) i).flatMap i1).map .p) 3 (idxs (fun i => hasQ c (sh s i) l) i).length, .cells ((sh s i).cells.map .p) 66]) rfl rfl rfl rfl rfl ty66 rfl rfl) ?_
        refine AList.nil ?_
        refine AWp.seq ?_
        refine AWp.regionDraw 18 mixed (by kernel_rfl) (by decide) ?_
        refine AQuiet.cons 50 rfl rfl rfl (OpJ.fieldAddr rfl rfl fd66_0 rfl) ?_
        refine AQuiet.cons 51 rfl rfl rfl (OpJ.load rfl rfl ty25 rfl) ?_
        refine AQuiet.cons 52 rfl rfl rfl (OpJ.fieldAddr rfl rfl fd66_0 rfl) ?_
        refine AQuiet.cons 53 rfl rfl rfl (OpJ.load rfl rfl ty25 rfl) ?_
        refine AQuiet.cons 54 rfl rfl rfl (OpJ.callP (both_ok _ _ _ _) rfl rfl rfl rfl rf44) ?_
        refine AQuiet.cons 55 rfl rfl rfl (OpJ.fieldAddr rfl rfl fd66_1 rfl) ?_
        refine AQuiet.cons 56 rfl rfl rfl (OpJ.load rfl rfl ty25 rfl) ?_
        refine AQuiet.cons 57 rfl rfl rfl (OpJ.fieldAddr rfl rfl fd66_1 rfl) ?_
        refine AQuiet.cons 58 rfl rfl rfl (OpJ.load rfl rfl ty25 rfl) ?_
        refine AQuiet.cons 59 rfl rfl rfl (OpJ.callP (both_ok _ _ _ _) rfl rfl rfl rfl rf44) ?_
        refine AQuiet.cons 60 rfl rfl rfl (OpJ.fieldAddr rfl rfl fd66_2 rfl) ?_
        refine AQuiet.cons 61 rfl rfl rfl (OpJ.load rfl rfl ty25 rfl) ?_
        refine AQuiet.cons 62 rfl rfl rfl (OpJ.fieldAddr rfl rfl fd66_2 rfl) ?_
        refine AQuiet.cons 63 rfl rfl rfl (OpJ.load rfl rfl ty25 rfl) ?_
        refine AQuiet.cons 64 rfl rfl rfl (OpJ.callP (both_ok _ _ _ _) rfl rfl rfl rfl rf44) ?_
        refine AQuiet.cons 65 rfl rfl rfl (OpJ.build rfl bd66 rfl rfl) ?_
        refine AQuiet.cons 66 rfl rfl rfl (OpJ.load (v := .p (.agg (ownS c l).cells)) rfl rfl ty66 rfl) ?_
        refine AQuiet.cons 67 rfl rfl rfl (OpJ.eqAgg (d := 8) rfl (.inl rfl) rfl rfl (by decide) eq66 ty66 rfl eg66 rfl) ?_
        refine AQuiet.nil ?_
        refine AList.nil ?_
        refine AWp.cond _ rfl (fun hc3 => ?_) (fun hc3 => ?_)
        · skip
          have hQ : hasQ c (sh s i) l = true := decide_eq_true (by simp [ownS] at hc3; omega)
          refine AWp.region ?_
          refine AList.c 68 rfl rfl rfl (OpJ.move rfl rfl) ?_
          refine AList.c 69 rfl rfl rfl (OpJ.move rfl rfl) ?_
          refine AList.c 70 rfl rfl rfl (OpJ.buildImm rfl slz34 (by decide) rfl rfl rfl) ?_
          refine AList.c 71 rfl rfl rfl (OpJ.appendAcc rfl rfl rfl slz34 sl34 rfl ?_ rfl (by decide) rfl by3 (by decide) ?_) ?_
          · rw [List.length_map, flat_len (c := 1) (fun _ => rfl)]; rfl
          · show (2 * ((idxs (fun i => hasQ c (sh s i) l) i).length + 1) + 192) * 8 ≤ 281474976710656; omega
          refine AList.c 6 rfl rfl rfl (OpJ.assign rfl rfl) ?_
          refine AList.nil ?_
          refine AWp.region ?_
          refine AList.c 72 rfl rfl rfl (OpJ.add rfl rfl rfl (i64ok ?_)) ?_
          · omega
          refine AList.c 45 rfl rfl rfl (OpJ.move rfl rfl) ?_
          refine AList.nil ?_
          refine ⟨i + 1, ?_, ?_, ?_⟩
          · omega
          · omega
          have eo : idxs (fun i => hasQ c (sh s i) l) (i + 1) = idxs (fun i => hasQ c (sh s i) l) i ++ [(i : Int)] := by simp only [idxs]; rw [if_pos hQ]
          rw [eo, List.length_append]
          refine To.done [0, 3] rfl (by repeat (first | exact Sub.nil | refine Sub.cons rfl ?_)) ?_
          show [_, Blk.row (renL _ (_ ++ _)) _] = [_, Blk.row _ _]
          rw [renL_app, renL_pure, List.flatMap_append, List.map_append]
          rfl
        · skip
          have hQ : hasQ c (sh s i) l = false := decide_eq_false (by simp [ownS] at hc3; intro h; have := hc3; omega)
          refine AWp.skip ?_
          refine AWp.region ?_
          refine AList.c 72 rfl rfl rfl (OpJ.add rfl rfl rfl (i64ok ?_)) ?_
          · omega
          refine AList.c 45 rfl rfl rfl (OpJ.move rfl rfl) ?_
          refine AList.nil ?_
          refine ⟨i + 1, ?_, ?_, ?_⟩
          · omega
          · omega
          have eo : idxs (fun i => hasQ c (sh s i) l) (i + 1) = idxs (fun i => hasQ c (sh s i) l) i := by simp only [idxs]; rw [if_neg (by rw [hQ]; decide)]
          rw [eo]
          refine To.done [0, 1] rfl (Sub.cons rfl (Sub.cons (by show some (renV _ (accV 1 _)) = some _; rw [renV_acc (σ := pl [0, 1]) (j := 1) rfl]) (by repeat (first | exact Sub.nil | refine Sub.cons rfl ?_)))) (by show [_, renB _ (accB _ _ _)] = _; rw [renB_accB]; rfl)
      · skip
        obtain rfl : i = s.length := by have h := of_decide_eq_false hc2; omega
        refine AWp.exit ?_
        refine AWp.seq ?_
        refine AWp.region ?_
        refine AList.c 73 rfl rfl rfl (OpJ.move rfl rfl) ?_
        refine AList.c 6 rfl rfl rfl (OpJ.assign rfl rfl) ?_
        refine AList.c 7 rfl rfl rfl (OpJ.assign rfl rfl) ?_
        refine AList.nil ?_
        refine AWp.to (To.done [1] (S := [(6, accV 0 (idxs (fun i => hasQ c (sh s i) l) s.length).length), (7, .p (.int .i64 0))]) rfl (Sub.cons (by show some (renV _ (accV 1 _)) = some _; rw [renV_acc (σ := pl [1]) (j := 0) rfl]) (by repeat (first | exact Sub.nil | refine Sub.cons rfl ?_))) (by show [renB _ (accB _ _ _)] = _; rw [renB_accB])) ?_
        refine AWp.ret ?_
        have eR : hasR c s l = ((idxs (fun i => hasQ c (sh s i) l) s.length), 0) := by unfold hasR hasE; rw [if_neg hE, if_pos e]
        rw [eR]
        exact ⟨.inr rfl, _, resV.many (vs := [accV 0 (idxs (fun i => hasQ c (sh s i) l) s.length).length, .p (.int .i64 0)]) rfl (⟨_, _, rfl, rfl, ⟨_, _, rfl, rfl, rfl⟩⟩), rfl, rfl⟩
theorem cut_O (c : List Tnt) (ls : List Lds) (s : Scl) (hcb : c.length ≤ bigN) (hb : ls.length ≤ bigN) (hs : ∀ x ∈ ls, x.st.length ≤ bigN) : ACalls Try.prog 22 ([curV c, ldsV ls, .agg s.cells].map .p) [] fun v H' => v = tupOf (accV 0 (cutR c ls s).1.length :: [PV.int .i64 (cutR c ls s).2.1, PV.int .i64 (cutR c ls s).2.2].map .p) ∧ H' = [accB (((cutR c ls s).1.flatMap i1).map .p) 3 (cutR c ls s).1.length] := by
  refine ACalls.start (N := 57) Try.func22 rfl rfl (Nat.le_of_ble_eq_true rfl) ?_
  refine AWp.seq ?_
  refine AWp.region ?_
  refine AList.c 5 rfl rfl rfl (OpJ.boxImm rfl rfl rfl) ?_
  refine AList.c 6 rfl rfl rfl (OpJ.assign rfl rfl) ?_
  refine AList.c 7 rfl rfl rfl (OpJ.assign rfl rfl) ?_
  refine AList.c 8 rfl rfl rfl (OpJ.assign rfl rfl) ?_
  refine AList.nil ?_
  refine AWp.seq ?_
  refine AWp.region ?_
  refine AList.c 17 rfl rfl rfl (OpJ.move rfl rfl) ?_
  refine AList.c 18 rfl rfl rfl (OpJ.move rfl rfl) ?_
  refine AList.c 19 rfl rfl rfl (OpJ.load rfl rfl ty41 rfl) ?_
  refine AList.c 20 rfl rfl rfl (OpJ.callP (isScale_ok s) rfl rfl rfl rfl rf54) ?_
  refine AList.c 21 rfl rfl rfl (OpJ.callP (open_ok c ls 10 (sclB s) (by omega) hcb hb hs) rfl rfl rfl rfl rf38) ?_
  refine AList.c 16 rfl rfl rfl (OpJ.move rfl rfl) ?_
  refine AList.c 22 rfl rfl rfl (OpJ.extract rfl rfl rfl) ?_
  refine AList.c 23 rfl rfl rfl (OpJ.extract rfl rfl rfl) ?_
  refine AList.c 9 rfl rfl rfl (OpJ.allocOwn rfl zr86 rfl) ?_
  refine AList.c0 rfl rfl (OpJ.store rfl rfl rfl rfl rfl ty86 rfl rfl) ?_
  refine AList.c 8 rfl rfl rfl (OpJ.assign rfl rfl) ?_
  refine AList.nil ?_
  refine AWp.seq ?_
  refine AWp.seq ?_
  refine AWp.region ?_
  refine AList.c 24 rfl rfl rfl (OpJ.move rfl rfl) ?_
  refine AList.c 25 rfl rfl rfl (OpJ.neq rfl rfl rfl) ?_
  refine AList.nil ?_
  refine AWp.cond _ rfl (fun hc0 => ?_) (fun hc0 => ?_)
  · skip
    have e : cutE c ls s ≠ 0 := by simpa [cutE] using hc0
    refine AWp.seq ?_
    refine AWp.region ?_
    refine AList.c 26 rfl rfl rfl (OpJ.move rfl rfl) ?_
    refine AList.c 6 rfl rfl rfl (OpJ.assign rfl rfl) ?_
    refine AList.c 7 rfl rfl rfl (OpJ.assign rfl rfl) ?_
    refine AList.c 8 rfl rfl rfl (OpJ.assign rfl rfl) ?_
    refine AList.nil ?_
    refine AWp.to ((To.done [] (S := [(6, .p .nilSlice), (7, .p (.int .i64 0)), (8, .p (.int .i64 (openE c ls 10 (sclB s))))]) rfl (Sub.cons rfl (Sub.cons rfl (Sub.cons rfl (Sub.nil)))) rfl).trans To.pad) ?_
    refine AWp.ret ?_
    have eR : cutR c ls s = ([], 0, openE c ls 10 (sclB s)) := if_neg e
    rw [eR]
    exact ⟨.inr rfl, _, resV.many (vs := [.p .nilSlice, .p (.int .i64 0), .p (.int .i64 (openE c ls 10 (sclB s)))]) rfl (⟨_, _, rfl, rfl, ⟨_, _, rfl, rfl, ⟨_, _, rfl, rfl, rfl⟩⟩⟩), rfl, rfl⟩
  · skip
    have e : openE c ls 10 (sclB s) = 0 := by simpa using hc0
    rw [openL_zero e, e]
    have hO := openE_zero.1 e
    have hZ := (sclB_iff s).1 hO.ov
    have hB := bok_open hO
    have hsn := hZ.n
    have e2 : cutE c ls s = 0 := e
    refine AWp.skip ?_
    refine AWp.seq ?_
    refine AWp.region ?_
    refine AList.c 10 rfl rfl rfl (OpJ.allocOwn rfl zr104 rfl) ?_
    refine AList.c0 rfl rfl (OpJ.store rfl rfl rfl rfl rfl ty104 rfl rfl) ?_
    refine AList.nil ?_
    refine AWp.seq ?_
    refine AWp.freeze 0 rfl rfl ?_
    refine AWp.freeze 1 rfl rfl ?_
    refine AWp.norm [] [(5, .p (sP s)), (9, .p (bP (ls.map (toB c)))), (10, .p sameP)] [] rfl (by repeat (first | exact Sub.nil | refine Sub.cons rfl ?_)) rfl ?_
    refine AWp.region ?_
    refine AList.c 11 rfl rfl rfl (OpJ.allocOwn rfl zr108c rfl) ?_
    refine AList.nil ?_
    refine AWp.seq ?_
    refine AWp.region ?_
    refine AList.c 12 rfl rfl rfl (OpJ.allocOwn rfl zr109 rfl) ?_
    refine AList.nil ?_
    refine AWp.seq ?_
    refine AWp.region ?_
    refine AList.c 27 rfl rfl rfl (OpJ.makeFunc rfl rfl rfl) ?_
    refine AList.c0 rfl rfl (OpJ.store rfl rfl rfl rfl rfl ty109 rfl rfl) ?_
    refine AList.nil ?_
    refine AWp.seq ?_
    refine AWp.norm [0, 1] [(5, .p (sP s)), (10, .p sameP), (11, .ptr 0 0), (12, .ptr 1 0)] (HH (ls.map (toB c)) s tb0) rfl (by repeat (first | exact Sub.nil | refine Sub.cons rfl ?_)) (by show [Blk.cells (renL _ (List.map _ _)) _, _] = _; rw [renL_pure]; rfl) ?_
    refine AWp.region ?_
    refine AList.c 29 rfl rfl rfl (OpJ.makeFunc rfl rfl rfl) ?_
    refine AList.c 30 rfl rfl rfl (OpJ.load rfl rfl ty104 rfl) ?_
    refine AList.callX 31 (best_ok 0 200 (.func (.func 60) [] [.ptr 1 0]) (.func (.func 55) [] []) (mostF (ls.map (toB c)) s s.n.toNat) (fun i H => ∃ t1, H = HH (ls.map (toB c)) s t1 ∧ MemoOk (ls.map (toB c)) s t1 ∧ ∀ g : Nat, g < i → (cho t1 (ix 0 g)).known = true) 201 rfl (by omega) (by omega) (by omega) (by omega) (cut_hof (ls.map (toB c)) s hB hZ) same_F (HH (ls.map (toB c)) s tb0) ⟨tb0, rfl, memo0 _ _, fun g h => by omega⟩) rfl rfl rfl rfl rfl rfl rfl rf57 (fun v H2 hQ2 => ?_)
    obtain ⟨rfl, t1, rfl, hM1, hK1⟩ := hQ2
    refine AList.c 28 rfl rfl rfl (OpJ.move rfl rfl) ?_
    refine AList.c 32 rfl rfl rfl (OpJ.extract rfl rfl rfl) ?_
    refine AList.c 33 rfl rfl rfl (OpJ.extract rfl rfl rfl) ?_
    refine AList.c 34 rfl rfl rfl (OpJ.extract rfl rfl rfl) ?_
    refine AList.c 7 rfl rfl rfl (OpJ.assign rfl rfl) ?_
    refine AList.c 13 rfl rfl rfl (OpJ.assign rfl rfl) ?_
    refine AList.c 14 rfl rfl rfl (OpJ.assign rfl rfl) ?_
    refine AList.nil ?_
    refine AWp.seq ?_
    refine AWp.seq ?_
    refine AWp.region ?_
    refine AList.c 35 rfl rfl rfl (OpJ.move rfl rfl) ?_
    refine AList.c 36 rfl rfl rfl (OpJ.not_ rfl rfl) ?_
    refine AList.nil ?_
    refine AWp.cond _ rfl (fun hc1 => ?_) (fun hc1 => ?_)
    · skip
      have hi : (cutB (ls.map (toB c)) s).2.2 = false := by simpa [cutB] using hc1
      refine AWp.seq ?_
      refine AWp.region ?_
      refine AList.c 6 rfl rfl rfl (OpJ.assign rfl rfl) ?_
      refine AList.c 7 rfl rfl rfl (OpJ.assign rfl rfl) ?_
      refine AList.c 8 rfl rfl rfl (OpJ.assign rfl rfl) ?_
      refine AList.nil ?_
      refine AWp.to ((To.done [] (S := [(6, .p .nilSlice), (7, .p (.int .i64 0)), (8, .p (.int .i64 4))]) rfl (Sub.cons rfl (Sub.cons rfl (Sub.cons rfl (Sub.nil)))) rfl).trans To.pad) ?_
      refine AWp.ret ?_
      have eR : cutR c ls s = ([], 0, 4) := by unfold cutR; rw [if_pos e2, if_neg (by rw [hi]; decide)]
      rw [eR]
      exact ⟨.inr rfl, _, resV.many (vs := [.p .nilSlice, .p (.int .i64 0), .p (.int .i64 4)]) rfl (⟨_, _, rfl, rfl, ⟨_, _, rfl, rfl, ⟨_, _, rfl, rfl, rfl⟩⟩⟩), rfl, rfl⟩
    · skip
      have hi : (cutB (ls.map (toB c)) s).2.2 = true := by simpa [cutB] using hc1
      have hf := cut_first hB hi
      have hfN := frN_ok hB hZ hf.1.1 hf.1.2 hf.2.1
      have hfX := fun (k : Nat) (hk : k < s.n.toNat) => frN_next hB hZ hf.1.1 hf.1.2 hf.2.1 hk
      refine AWp.skip ?_
      refine AWp.seq ?_
      refine AWp.region ?_
      refine AList.c 37 rfl rfl rfl (OpJ.move rfl rfl) ?_
      refine AList.c 38 rfl rfl rfl (OpJ.buildOwn rfl slz34 (by decide) rfl rfl) ?_
      refine AList.c 6 rfl rfl rfl (OpJ.assign rfl rfl) ?_
      refine AList.nil ?_
      refine AWp.seq ?_
      refine AWp.seq ?_
      refine AWp.region ?_
      refine AList.c 39 rfl rfl rfl (OpJ.fieldAddr rfl rfl fd41_0 rfl) ?_
      refine AList.c 40 rfl rfl rfl (OpJ.load rfl rfl ty3 rfl) ?_
      refine AList.c 41 rfl rfl rfl (OpJ.move rfl rfl) ?_
      refine AList.nil ?_
      refine AWp.block ?_
      refine AWp.loopHL [7, 11, 40, 55, 56] (fun g => [(41, .p (.int .i64 ((g : Nat) : Int))), (13, .p (.int .i64 (frN (ls.map (toB c)) s (cutB (ls.map (toB c)) s).2.1 g))), (6, accV 2 (g + 1))]) (fun g => [tblB t1, aftB (ls.map (toB c)) s, accB (((cutL (ls.map (toB c)) s (cutB (ls.map (toB c)) s).2.1 g).flatMap i1).map .p) 3 (g + 1)]) (fun g => g ≤ s.n.toNat ∧ (g < s.n.toNat → (cho t1 (ix g (frN (ls.map (toB c)) s (cutB (ls.map (toB c)) s).2.1 g).toNat)).known = true)) (fun g => s.n.toNat - g) 0 ⟨Nat.zero_le _, fun _ => hK1 _ (by have := hf.1; show ((cutB (ls.map (toB c)) s).2.1).toNat < 201; omega)⟩ (To.sub (Sub.chk (Sub.cons rfl (Sub.cons rfl (Sub.cons rfl (Sub.nil)))))) (fun i hg => ?_)
      obtain ⟨hg1, hg2⟩ := hg
      have hfn := hfN i hg1
      obtain ⟨u, hu⟩ : ∃ u : Nat, (frN (ls.map (toB c)) s (cutB (ls.map (toB c)) s).2.1 i) = (u : Int) := ⟨(frN (ls.map (toB c)) s (cutB (ls.map (toB c)) s).2.1 i).toNat, by omega⟩
      rw [hu]
      refine AWp.seq ?_
      refine AWp.region ?_
      refine AList.c 42 rfl rfl rfl (OpJ.lss rfl rfl rfl) ?_
      refine AList.nil ?_
      refine AWp.seq ?_
      refine AWp.cond _ rfl (fun hc2 => ?_) (fun hc2 => ?_)
      · skip
        have hk0 : i < s.n.toNat := by have h := of_decide_eq_true hc2; omega
        have hq := hg2 hk0
        have hix : ix i u < t1.length := by rw [hM1.len]; unfold ix; omega
        have hval := hM1.val i u hk0 (by omega) (by rw [hu] at hq; exact hq)
        refine AWp.skip ?_
        refine AWp.seq ?_
        refine AWp.block ?_
        refine AWp.seq ?_
        refine AWp.region ?_
        refine AList.c 43 rfl rfl rfl (OpJ.move rfl rfl) ?_
        refine AList.c 15 rfl rfl rfl (OpJ.assign rfl rfl) ?_
        refine AList.nil ?_
        refine AWp.seq ?_
        refine AWp.region ?_
        refine AList.c 44 rfl rfl rfl (OpJ.move rfl rfl) ?_
        refine AList.c 45 rfl rfl rfl (OpJ.move rfl rfl) ?_
        refine AList.c 46 rfl rfl rfl (OpJ.indexArrI rfl rfl rfl ar108 el108 (by omega)) ?_
        refine AList.c 47 rfl rfl rfl (OpJ.indexArrI rfl rfl rfl ar107 el107 (by omega)) ?_
        refine AList.c 48 rfl rfl rfl (OpJ.fieldAddr rfl rfl fd106_1 rfl) ?_
        refine AList.c 49 rfl rfl rfl (OpJ.loadFlat (f := Cho.cells) (c := 3) (k := (ix i u)) (j := 1) (xs := t1) rfl rfl ty3 rfl rfl (by unfold ix; omega) (fun _ => rfl) hix (by decide) (show _ = PV.int .i64 (frN (ls.map (toB c)) s (cutB (ls.map (toB c)) s).2.1 (i + 1)) from by rw [cho_get]; exact congrArg (PV.int .i64) (hval.2.trans (by rw [← hu]; rfl)))) ?_
        refine AList.c 13 rfl rfl rfl (OpJ.assign rfl rfl) ?_
        refine AList.nil ?_
        refine AWp.region ?_
        refine AList.c 50 rfl rfl rfl (OpJ.move rfl rfl) ?_
        refine AList.c 51 rfl rfl rfl (OpJ.move rfl rfl) ?_
        refine AList.c 52 rfl rfl rfl (OpJ.buildImm rfl slz34 (by decide) rfl rfl rfl) ?_
        refine AList.c 53 rfl rfl rfl (OpJ.appendRow rfl rfl rfl slz34 sl34 rfl ?_ rfl rfl by3 (by decide) ?_) ?_
        · rw [List.length_map, flat_len (c := 1) (fun _ => rfl), cutL_len]; rfl
        · show (2 * (i + 1 + 1) + 192) * 8 ≤ 281474976710656; omega
        refine AList.c 6 rfl rfl rfl (OpJ.assign rfl rfl) ?_
        refine AList.nil ?_
        refine AWp.region ?_
        refine AList.c 54 rfl rfl rfl (OpJ.add rfl rfl rfl (i64ok ?_)) ?_
        · omega
        refine AList.c 41 rfl rfl rfl (OpJ.move rfl rfl) ?_
        refine AList.nil ?_
        refine ⟨i + 1, ?_, ?_, ?_⟩
        · refine ⟨by omega, fun h => ?_⟩
          have hx := hfX i hk0
          have hf2 := hfN (i + 1) (by omega)
          exact hM1.nxt i u h (by omega) (by rw [hu] at hq; exact hq) _ (by omega) (by omega)
        · omega
        refine To.done [0, 1, 3] rfl (by repeat (first | exact Sub.nil | refine Sub.cons rfl ?_)) ?_
        show [Blk.cells (renL _ (List.map _ _)) _, _, Blk.row (renL _ (_ ++ _)) _] = [_, _, Blk.row _ _]
        rw [renL_pure, renL_app, renL_pure, cutL_succ, List.flatMap_append, List.map_append]
        rfl
      · skip
        obtain rfl : s.n.toNat = i := by have h := of_decide_eq_false hc2; omega
        refine AWp.exit ?_
        refine AWp.seq ?_
        refine AWp.region ?_
        refine AList.c 55 rfl rfl rfl (OpJ.move rfl rfl) ?_
        refine AList.c 56 rfl rfl rfl (OpJ.move rfl rfl) ?_
        refine AList.c 6 rfl rfl rfl (OpJ.assign rfl rfl) ?_
        refine AList.c 7 rfl rfl rfl (OpJ.assign rfl rfl) ?_
        refine AList.c 8 rfl rfl rfl (OpJ.assign rfl rfl) ?_
        refine AList.nil ?_
        refine AWp.to (To.done [2] (S := [(6, accV 0 (s.n.toNat + 1)), (7, .p (.int .i64 (cutB (ls.map (toB c)) s).1)), (8, .p (.int .i64 0))]) rfl (Sub.cons (by show some (renV _ (accV 2 _)) = some _; rw [renV_acc (σ := pl [2]) (j := 0) rfl]) (by repeat (first | exact Sub.nil | refine Sub.cons rfl ?_))) (by show [Blk.row (renL _ _) _] = _; rw [renL_pure])) ?_
        refine AWp.ret ?_
        have eR : cutR c ls s = (cutL (ls.map (toB c)) s (cutB (ls.map (toB c)) s).2.1 s.n.toNat, (cutB (ls.map (toB c)) s).1, 0) := by unfold cutR; rw [if_pos e2, if_pos hi]
        rw [eR]
        rw [show (cutL (ls.map (toB c)) s (cutB (ls.map (toB c)) s).2.1 s.n.toNat, (cutB (ls.map (toB c)) s).1, (0 : Int)).1.length = s.n.toNat + 1 from cutL_len _ _ _ _]
        exact ⟨.inr rfl, _, resV.many (vs := [accV 0 (s.n.toNat + 1), .p (.int .i64 (cutB (ls.map (toB c)) s).1), .p (.int .i64 0)]) rfl (⟨_, _, rfl, rfl, ⟨_, _, rfl, rfl, ⟨_, _, rfl, rfl, rfl⟩⟩⟩), rfl, rfl⟩
theorem shadeOwns_main (c : List Tnt) (l : Lds) (s : List Shd) (k : Scl) (hcb : c.length ≤ bigN) (hs : l.st.length ≤ bigN) (hsl : s.length ≤ bigN) : Pure Try.prog 12 [curV c, ldV l, shdV s, .agg k.cells] (.bool true) := by
  have hsl2 := hsl
  unfold bigN at hsl2
  have hxl := hasR_len c s l
  have hcl := cutR_9 c [l] k
  have hxb : (hasR c s l).1.length ≤ bigN := Nat.le_trans hxl hsl
  have hcb9 : (cutR c [l] k).1.length ≤ bigN := by unfold bigN; omega
  refine Pure.start (N := 180) Try.func12 rfl rfl (Nat.le_of_ble_eq_true rfl) ?_
  refine AWp.seq ?_
  refine AWp.region ?_
  refine AList.c 5 rfl rfl rfl (OpJ.boxImm rfl rfl rfl) ?_
  refine AList.c 7 rfl rfl rfl (OpJ.boxImm rfl rfl rfl) ?_
  refine AList.c 8 rfl rfl rfl (OpJ.assign rfl rfl) ?_
  refine AList.nil ?_
  refine AWp.seq ?_
  refine AWp.seq ?_
  refine AWp.region ?_
  refine AList.c 29 rfl rfl rfl (OpJ.move rfl rfl) ?_
  refine AList.c 30 rfl rfl rfl (OpJ.load (v := .p (ldV l)) rfl rfl ty28 rfl) ?_
  refine AList.c 31 rfl rfl rfl (OpJ.buildImm rfl slz39 (by decide) rfl rfl rfl) ?_
  refine AList.c 32 rfl rfl rfl (OpJ.callP (great_ok c [l] hcb (by unfold bigN; show 1 ≤ _; omega) (fun x hx => by simp at hx; subst hx; exact hs)) rfl rfl rfl rfl rf13) ?_
  refine AList.c 33 rfl rfl rfl (OpJ.move rfl rfl) ?_
  refine AList.g 34 33 rfl rfl rfl rfl rfl rfl rfl [(2, _)] (fun h => And.intro (.inl rfl) (trivial)) (fun h => (OpJ.move rfl rfl)) ?_
  refine AList.g 35 33 rfl rfl rfl rfl rfl rfl rfl [(34, _)] (fun h => And.intro (.inr ⟨_, rfl, h⟩) (trivial)) (fun h => (OpJ.lenSlice rfl rfl sl23 rfl)) ?_
  refine AList.g 36 33 rfl rfl rfl rfl rfl rfl rfl [(35, _)] (fun h => And.intro (.inr ⟨_, rfl, h⟩) (trivial)) (fun h => (OpJ.gtr rfl rfl rfl)) ?_
  refine AList.c 37 rfl rfl rfl (OpJ.or_ rfl rfl rfl ?_) ?_
  · first | (intro h; rw [h]; rfl) | (intro h; simp_all)
  refine AList.nil ?_
  refine AWp.cond _ rfl (fun hc0 => ?_) (fun hc0 => ?_)
  · skip
    refine AWp.seq ?_
    refine AWp.region ?_
    refine AList.c 38 rfl rfl rfl (OpJ.callP (alive_ok) rfl rfl rfl rfl rf14) ?_
    refine AList.c 8 rfl rfl rfl (OpJ.assign rfl rfl) ?_
    refine AList.nil ?_
    refine AWp.ret ?_
    exact Fin.oneE rfl rfl rfl
  · skip
    have hG := (Bool.or_eq_false_iff.1 hc0).1
    unfold grtB at hG
    rw [Bool.or_eq_false_iff, Bool.or_eq_false_iff] at hG
    have hc14 := of_decide_eq_false hG.2.1
    have hst : l.st.length ≤ 12 := by have := hG.1; simp at this; omega
    have hs14 := of_decide_eq_false (Bool.or_eq_false_iff.1 hc0).2
    refine AWp.skip ?_
    refine AWp.seq ?_
    refine AWp.regionDrawG 9 5 [0, 1, 2, 3, 4] [([0], true), ([], false), ([1, 0], true), ([2], true), ([], false), ([], false), ([3, 2], true), ([4], true), ([], false)] mixed (by kernel_rfl) (by decide) (by kernel_rfl) rfl rfl ?_
    refine AQG.lay (v0 := .row 5 _) 39 0 rfl rfl rfl rfl rfl rfl rfl rfl (fun _ => (OpJ.buildOwn rfl slz22 (by decide) rfl rfl)) rfl rfl rfl ?_
    refine AQG.cons 40 rfl rfl rfl (fun _ => (OpJ.move rfl rfl)) rfl ?_
    refine AQG.turn (v0 := .row 5 _) 41 1 0 rfl rfl rfl rfl rfl rfl rfl rfl rfl rfl (fun _ => (OpJ.appendRow (i := 0) (len := 0) (cs := []) rfl rfl rfl slz22 sl22 rfl ?_ (asrc_is (xs := c.flatMap Tnt.cells) (n := c.length) (sz := 2) (flat_len (c := 2) (fun _ => rfl) c)) (oneAll (fun _ => rfl) c) by84 (by decide) ?_)) rfl rfl (congrArg (fun z => Blk.row z 84) (renL_pure _ (c.flatMap Tnt.cells))) ?_
    · rfl
    · show (2 * (0 + c.length) + 192) * 16 ≤ 281474976710656; omega
    refine AQG.lay (v0 := .row 5 _) 42 2 rfl rfl rfl rfl rfl rfl rfl rfl (fun _ => (OpJ.buildOwn rfl slz26 (by decide) rfl rfl)) rfl rfl rfl ?_
    refine AQG.cons 43 rfl rfl rfl (fun _ => (OpJ.fieldAddr rfl rfl fd28_3 rfl)) rfl ?_
    refine AQG.cons 44 rfl rfl rfl (fun _ => (OpJ.load (v := .p (stV l.st)) rfl rfl ty26 rfl)) rfl ?_
    refine AQG.turn (v0 := .row 5 _) 45 3 2 rfl rfl rfl rfl rfl rfl rfl rfl rfl rfl (fun _ => (OpJ.appendRow (i := 2) (len := 0) (cs := []) rfl rfl rfl slz26 sl26 rfl ?_ (asrc_is (xs := l.st.flatMap Stk.cells) (n := l.st.length) (sz := 4) (flat_len (c := 4) (fun _ => rfl) l.st)) (oneAll (fun _ => rfl) l.st) by51 (by decide) ?_)) rfl rfl (congrArg (fun z => Blk.row z 51) (renL_pure _ (l.st.flatMap Stk.cells))) ?_
    · rfl
    · show (2 * (0 + l.st.length) + 192) * 32 ≤ 281474976710656; omega
    refine AQG.lay (v0 := .row 5 _) 46 4 rfl rfl rfl rfl rfl rfl rfl rfl (fun _ => (OpJ.buildOwn rfl slz23 (by decide) rfl rfl)) rfl rfl rfl ?_
    refine AQG.cons 47 rfl rfl rfl (fun _ => (OpJ.move rfl rfl)) rfl ?_
    refine AQG.nil ?_
    refine AList.c 48 rfl rfl rfl (OpJ.appendRow (i := 4) (len := 0) (cs := []) rfl rfl rfl slz23 sl23 rfl ?_ (asrc_is (xs := s.flatMap Shd.cells) (n := s.length) (sz := 6) (flat_len (c := 6) (fun _ => rfl) s)) (oneAll (fun _ => rfl) s) by66 (by decide) ?_) ?_
    · rfl
    · show (2 * (0 + s.length) + 192) * 48 ≤ 281474976710656; omega
    refine AList.c 9 rfl rfl rfl (OpJ.assign rfl rfl) ?_
    refine AList.c 10 rfl rfl rfl (OpJ.assign rfl rfl) ?_
    refine AList.c 11 rfl rfl rfl (OpJ.assign rfl rfl) ?_
    refine AList.nil ?_
    refine AWp.seq ?_
    refine AWp.freeze 1 rfl (allP_map _) ?_
    refine AWp.freeze 3 rfl (allP_map _) ?_
    refine AWp.freeze 5 rfl (allP_map _) ?_
    refine AWp.norm [] [(0, .p (curV c)), (2, .p (shdV s)), (5, .p (.ip l.cells 0)), (7, .p (.ip k.cells 0)), (9, .p (.is (c.flatMap Tnt.cells) (0 + c.length))), (10, .p (.is (l.st.flatMap Stk.cells) (0 + l.st.length))), (11, .p (.is (s.flatMap Shd.cells) (0 + s.length)))] [] rfl (by repeat (first | exact Sub.nil | refine Sub.cons rfl ?_)) rfl ?_
    rw [copyC, copyK, copyS]
    refine AWp.region ?_
    refine AList.c 50 rfl rfl rfl (OpJ.move rfl rfl) ?_
    refine AList.c 51 rfl rfl rfl (OpJ.move rfl rfl) ?_
    refine AList.c 52 rfl rfl rfl (OpJ.load (v := .p (ldV l)) rfl rfl ty28 rfl) ?_
    refine AList.c 53 rfl rfl rfl (OpJ.callTup (has_O c s l hcb hsl hs) (scInts (hasR c s l).1) rfl rfl rfl rfl rfl rf17) ?_
    refine AList.c 49 rfl rfl rfl (OpJ.move rfl rfl) ?_
    refine AList.c 54 rfl rfl rfl (OpJ.extractT rfl rfl rfl) ?_
    refine AList.c 55 rfl rfl rfl (OpJ.extractT rfl rfl rfl) ?_
    refine AList.c 12 rfl rfl rfl (OpJ.assign rfl rfl) ?_
    refine AList.c 13 rfl rfl rfl (OpJ.assign rfl rfl) ?_
    refine AList.nil ?_
    refine AWp.seq ?_
    refine AWp.region ?_
    refine AList.c 56 rfl rfl rfl (OpJ.buildOwn rfl slz34 (by decide) rfl rfl) ?_
    refine AList.c 57 rfl rfl rfl (OpJ.move rfl rfl) ?_
    refine AList.c 58 rfl rfl rfl (OpJ.appendRow (i := 1) (len := 0) (cs := []) rfl rfl rfl slz34 sl34 rfl ?_ (asrc_acc (i := 0) (xs := (hasR c s l).1.flatMap i1) (n := (hasR c s l).1.length) rfl (flat_len (c := 1) (fun _ => rfl) (hasR c s l).1)) (oneAll (fun _ => rfl) (hasR c s l).1) by3 (by decide) ?_) ?_
    · rfl
    · show (2 * (0 + (hasR c s l).1.length) + 192) * 8 ≤ 281474976710656; omega
    refine AList.c 14 rfl rfl rfl (OpJ.assign rfl rfl) ?_
    refine AList.nil ?_
    refine AWp.seq ?_
    refine AWp.seq ?_
    refine AWp.freeze 2 rfl (allP_map _) ?_
    refine AWp.to (To.sub (T2 := [(0, .p (curV c)), (2, .p (shdV s)), (5, .p (.ip l.cells 0)), (7, .p (.ip k.cells 0)), (9, .p (curV c)), (10, .p (stV l.st)), (11, .p (shdV s)), (12, accV 0 (hasR c s l).1.length), (13, .p (.int .i64 (hasR c s l).2)), (14, .p (intsV (hasR c s l).1))]) (Sub.cons rfl (Sub.cons rfl (Sub.cons rfl (Sub.cons rfl (Sub.cons rfl (Sub.cons rfl (Sub.cons rfl (Sub.cons (by show some (frzV 2 _ (accV 0 _)) = some _; rw [frzV_acc (by decide)]) (Sub.cons rfl (Sub.cons (by show some (V.p (.is _ (0 + _))) = _; rw [Nat.zero_add]; rfl) Sub.nil))))))))))) ?_
    refine AWp.region ?_
    refine AList.c 59 rfl rfl rfl (OpJ.move rfl rfl) ?_
    refine AList.c 60 rfl rfl rfl (OpJ.lenSlice rfl rfl sl34 (alen_acc 0 _)) ?_
    refine AList.c 61 rfl rfl rfl (OpJ.move rfl rfl) ?_
    refine AList.nil ?_
    refine AWp.block ?_
    refine AWp.loopHL [0, 2, 5, 7, 8, 9, 10, 11, 12, 13, 14, 16, 18, 19, 20, 21, 22, 23, 25, 26, 27, 28, 60, 69, 70, 71, 72, 75, 76, 81, 82, 83, 84, 85, 86, 88, 89, 90, 92, 93, 94, 95, 97, 98, 99, 100, 101, 102, 103, 104, 105, 106, 107, 108, 109, 110, 111, 112, 113, 114, 115, 116, 117, 118, 119, 120, 121, 122, 123, 124, 125, 126, 127, 128, 129, 130, 131, 132, 133, 134, 135, 136, 137, 138, 139, 140, 141, 142, 143, 144, 145, 146, 147, 148, 149, 150, 151, 152, 153, 154, 155, 156, 157, 158, 159, 160, 161, 162, 163, 164, 165, 166, 167, 168, 169, 170, 171, 172, 173, 174, 175, 176, 177, 178, 179] (fun g => [(61, .p (.int .i64 ((g : Nat) : Int)))]) (fun g => [accB (((negL (hasR c s l).1 g).flatMap i1).map .p) 3 (hasR c s l).1.length, .dead, .dead]) (fun g => g ≤ (hasR c s l).1.length) (fun g => (hasR c s l).1.length - g) 0 (Nat.zero_le _) (To.sub (Sub.chk (Sub.cons rfl (Sub.nil)))) (fun i hg => ?_)
    refine AWp.seq ?_
    refine AWp.region ?_
    refine AList.c 62 rfl rfl rfl (OpJ.lss rfl rfl rfl) ?_
    refine AList.nil ?_
    refine AWp.seq ?_
    refine AWp.cond _ rfl (fun hc1 => ?_) (fun hc1 => ?_)
    · skip
      have hk0 : i < (hasR c s l).1.length := by have h := of_decide_eq_true hc1; omega
      refine AWp.skip ?_
      refine AWp.seq ?_
      refine AWp.block ?_
      refine AWp.seq ?_
      refine AWp.region ?_
      refine AList.c 63 rfl rfl rfl (OpJ.move rfl rfl) ?_
      refine AList.c 15 rfl rfl rfl (OpJ.assign rfl rfl) ?_
      refine AList.nil ?_
      refine AWp.region ?_
      refine AList.c 64 rfl rfl rfl (OpJ.move rfl rfl) ?_
      refine AList.c 65 rfl rfl rfl (OpJ.move rfl rfl) ?_
      refine AList.c 66 rfl rfl rfl (OpJ.indexAcc rfl rfl rfl sl34 el34 hk0) ?_
      refine AList.c0 rfl rfl (OpJ.storeAcc (f := i1) (c := 1) (k := i) (j := 0) (xs := (negL (hasR c s l).1 i)) (z := (-1)) (ws := [.int .i64 (-1)]) rfl rfl rfl rfl rfl ty3 rfl rfl rfl (by omega) rfl (fun _ => rfl) (by rw [negL_len (by omega)]; exact hk0) (by decide) rfl) ?_
      refine AList.nil ?_
      refine AWp.region ?_
      refine AList.c 67 rfl rfl rfl (OpJ.add rfl rfl rfl (i64ok ?_)) ?_
      · omega
      refine AList.c 61 rfl rfl rfl (OpJ.move rfl rfl) ?_
      refine AList.nil ?_
      refine ⟨i + 1, ?_, ?_, ?_⟩
      · omega
      · omega
      rw [negL_set hk0]
      exact To.sub (Sub.cons rfl (by repeat (first | exact Sub.nil | refine Sub.cons rfl ?_)))
    · skip
      refine AWp.exit ?_
      refine AWp.seq ?_
      refine AWp.norm [] [(0, _), (2, _), (5, _), (7, _), (9, _), (10, _), (11, _), (13, _), (14, _)] [] rfl (by repeat (first | exact Sub.nil | refine Sub.cons rfl ?_)) rfl ?_
      refine AWp.region ?_
      refine AList.c 69 rfl rfl rfl (OpJ.move rfl rfl) ?_
      refine AList.c 70 rfl rfl rfl (OpJ.load (v := .p (ldV l)) rfl rfl ty28 rfl) ?_
      refine AList.c 71 rfl rfl rfl (OpJ.buildImm rfl slz39 (by decide) rfl rfl rfl) ?_
      refine AList.c 72 rfl rfl rfl (OpJ.load (v := .p (.agg k.cells)) rfl rfl ty41 rfl) ?_
      refine AList.c 73 rfl rfl rfl (OpJ.callTup (cut_O c [l] k hcb (by unfold bigN; show 1 ≤ _; omega) (fun x hx => by simp at hx; subst hx; exact hs)) (scInts (cutR c [l] k).1) rfl rfl rfl rfl rfl rf22) ?_
      refine AList.c 68 rfl rfl rfl (OpJ.move rfl rfl) ?_
      refine AList.c 74 rfl rfl rfl (OpJ.extractT rfl rfl rfl) ?_
      refine AList.c 75 rfl rfl rfl (OpJ.extractT rfl rfl rfl) ?_
      refine AList.c 76 rfl rfl rfl (OpJ.extractT rfl rfl rfl) ?_
      refine AList.c 16 rfl rfl rfl (OpJ.assign rfl rfl) ?_
      refine AList.c 17 rfl rfl rfl (OpJ.assign rfl rfl) ?_
      refine AList.c 18 rfl rfl rfl (OpJ.assign rfl rfl) ?_
      refine AList.nil ?_
      refine AWp.seq ?_
      refine AWp.region ?_
      refine AList.c 77 rfl rfl rfl (OpJ.buildOwn rfl slz34 (by decide) rfl rfl) ?_
      refine AList.c 78 rfl rfl rfl (OpJ.move rfl rfl) ?_
      refine AList.c 79 rfl rfl rfl (OpJ.appendRow (i := 1) (len := 0) (cs := []) rfl rfl rfl slz34 sl34 rfl ?_ (asrc_acc (i := 0) (xs := (cutR c [l] k).1.flatMap i1) (n := (cutR c [l] k).1.length) rfl (flat_len (c := 1) (fun _ => rfl) (cutR c [l] k).1)) (oneAll (fun _ => rfl) (cutR c [l] k).1) by3 (by decide) ?_) ?_
      · rfl
      · show (2 * (0 + (cutR c [l] k).1.length) + 192) * 8 ≤ 281474976710656; omega
      refine AList.c 19 rfl rfl rfl (OpJ.assign rfl rfl) ?_
      refine AList.nil ?_
      refine AWp.seq ?_
      refine AWp.seq ?_
      refine AWp.freeze 2 rfl (allP_map _) ?_
      refine AWp.to (To.sub (T2 := [(0, .p (curV c)), (2, .p (shdV s)), (5, .p (.ip l.cells 0)), (7, .p (.ip k.cells 0)), (9, .p (curV c)), (10, .p (stV l.st)), (11, .p (shdV s)), (13, .p (.int .i64 (hasR c s l).2)), (14, .p (intsV (hasR c s l).1)), (16, accV 0 (cutR c [l] k).1.length), (18, .p (.int .i64 (cutR c [l] k).2.2)), (19, .p (intsV (cutR c [l] k).1))]) (Sub.cons rfl (Sub.cons rfl (Sub.cons rfl (Sub.cons rfl (Sub.cons rfl (Sub.cons rfl (Sub.cons rfl (Sub.cons rfl (Sub.cons rfl (Sub.cons (by show some (frzV 2 _ (accV 0 _)) = some _; rw [frzV_acc (by decide)]) (Sub.cons rfl (Sub.cons (by show some (V.p (.is _ (0 + _))) = _; rw [Nat.zero_add]; rfl) Sub.nil))))))))))))) ?_
      refine AWp.region ?_
      refine AList.c 80 rfl rfl rfl (OpJ.move rfl rfl) ?_
      refine AList.c 81 rfl rfl rfl (OpJ.lenSlice rfl rfl sl34 (alen_acc 0 _)) ?_
      refine AList.c 82 rfl rfl rfl (OpJ.move rfl rfl) ?_
      refine AList.nil ?_
      refine AWp.block ?_
      refine AWp.loopHL [0, 2, 5, 7, 8, 9, 10, 11, 13, 14, 16, 18, 19, 21, 22, 23, 25, 26, 27, 28, 81, 89, 90, 92, 93, 94, 95, 97, 98, 99, 100, 101, 102, 103, 104, 105, 106, 107, 108, 109, 110, 111, 112, 113, 114, 115, 116, 117, 118, 119, 120, 121, 122, 123, 124, 125, 126, 127, 128, 129, 130, 131, 132, 133, 134, 135, 136, 137, 138, 139, 140, 141, 142, 143, 144, 145, 146, 147, 148, 149, 150, 151, 152, 153, 154, 155, 156, 157, 158, 159, 160, 161, 162, 163, 164, 165, 166, 167, 168, 169, 170, 171, 172, 173, 174, 175, 176, 177, 178, 179] (fun g => [(82, .p (.int .i64 ((g : Nat) : Int)))]) (fun g => [accB (((negL (cutR c [l] k).1 g).flatMap i1).map .p) 3 (cutR c [l] k).1.length, .dead, .dead]) (fun g => g ≤ (cutR c [l] k).1.length) (fun g => (cutR c [l] k).1.length - g) 0 (Nat.zero_le _) (To.sub (Sub.chk (Sub.cons rfl (Sub.nil)))) (fun i hg => ?_)
      refine AWp.seq ?_
      refine AWp.region ?_
      refine AList.c 83 rfl rfl rfl (OpJ.lss rfl rfl rfl) ?_
      refine AList.nil ?_
      refine AWp.seq ?_
      refine AWp.cond _ rfl (fun hc2 => ?_) (fun hc2 => ?_)
      · skip
        have hk0 : i < (cutR c [l] k).1.length := by have h := of_decide_eq_true hc2; omega
        refine AWp.skip ?_
        refine AWp.seq ?_
        refine AWp.block ?_
        refine AWp.seq ?_
        refine AWp.region ?_
        refine AList.c 84 rfl rfl rfl (OpJ.move rfl rfl) ?_
        refine AList.c 20 rfl rfl rfl (OpJ.assign rfl rfl) ?_
        refine AList.nil ?_
        refine AWp.region ?_
        refine AList.c 85 rfl rfl rfl (OpJ.move rfl rfl) ?_
        refine AList.c 86 rfl rfl rfl (OpJ.move rfl rfl) ?_
        refine AList.c 87 rfl rfl rfl (OpJ.indexAcc rfl rfl rfl sl34 el34 hk0) ?_
        refine AList.c0 rfl rfl (OpJ.storeAcc (f := i1) (c := 1) (k := i) (j := 0) (xs := (negL (cutR c [l] k).1 i)) (z := (-1)) (ws := [.int .i64 (-1)]) rfl rfl rfl rfl rfl ty3 rfl rfl rfl (by omega) rfl (fun _ => rfl) (by rw [negL_len (by omega)]; exact hk0) (by decide) rfl) ?_
        refine AList.nil ?_
        refine AWp.region ?_
        refine AList.c 88 rfl rfl rfl (OpJ.add rfl rfl rfl (i64ok ?_)) ?_
        · omega
        refine AList.c 82 rfl rfl rfl (OpJ.move rfl rfl) ?_
        refine AList.nil ?_
        refine ⟨i + 1, ?_, ?_, ?_⟩
        · omega
        · omega
        rw [negL_set hk0]
        exact To.sub (Sub.cons rfl (by repeat (first | exact Sub.nil | refine Sub.cons rfl ?_)))
      · skip
        refine AWp.exit ?_
        refine AWp.seq ?_
        refine AWp.norm [] [(0, _), (2, _), (5, _), (7, _), (9, _), (10, _), (11, _), (13, _), (14, _), (18, _), (19, _)] [] rfl (by repeat (first | exact Sub.nil | refine Sub.cons rfl ?_)) rfl ?_
        refine AWp.region ?_
        refine AList.c 89 rfl rfl rfl (OpJ.move rfl rfl) ?_
        refine AList.c 90 rfl rfl rfl (OpJ.load (v := .p (ldV l)) rfl rfl ty28 rfl) ?_
        refine AList.c 91 rfl rfl rfl (OpJ.callP (black_R c l hcb hs) rfl rfl rfl rfl rf15) ?_
        refine AList.nil ?_
        refine AWp.seq ?_
        refine AWp.region ?_
        refine AList.c 92 rfl rfl rfl (OpJ.move rfl rfl) ?_
        refine AList.c 93 rfl rfl rfl (OpJ.load (v := .p (ldV l)) rfl rfl ty28 rfl) ?_
        refine AList.c 94 rfl rfl rfl (OpJ.buildImm rfl slz39 (by decide) rfl rfl rfl) ?_
        refine AList.c 95 rfl rfl rfl (OpJ.buildImm rfl slz34 (by decide) rfl rfl rfl) ?_
        refine AList.c 96 rfl rfl rfl (OpJ.callP (ordered_R c [l] [0] 0 hcb (by unfold bigN; show 1 ≤ _; omega) (fun x hx => by simp at hx; subst hx; exact hs) (by decide)) rfl rfl rfl rfl rf20) ?_
        refine AList.nil ?_
        refine AWp.seq ?_
        refine AWp.region ?_
        refine AList.c 98 rfl rfl rfl (OpJ.move rfl rfl) ?_
        refine AList.c 99 rfl rfl rfl (OpJ.move rfl rfl) ?_
        refine AList.c 100 rfl rfl rfl (OpJ.load (v := .p (ldV l)) rfl rfl ty28 rfl) ?_
        refine AList.c 101 rfl rfl rfl (OpJ.callP (has_R c s l hcb hsl hs) rfl rfl rfl rfl rf17) ?_
        refine AList.c 97 rfl rfl rfl (OpJ.move rfl rfl) ?_
        refine AList.c 102 rfl rfl rfl (OpJ.extract rfl rfl rfl) ?_
        refine AList.c 103 rfl rfl rfl (OpJ.extract rfl rfl rfl) ?_
        refine AList.c 21 rfl rfl rfl (OpJ.assign rfl rfl) ?_
        refine AList.c 22 rfl rfl rfl (OpJ.assign rfl rfl) ?_
        refine AList.nil ?_
        refine AWp.seq ?_
        refine AWp.region ?_
        refine AList.c 105 rfl rfl rfl (OpJ.move rfl rfl) ?_
        refine AList.c 106 rfl rfl rfl (OpJ.load (v := .p (ldV l)) rfl rfl ty28 rfl) ?_
        refine AList.c 107 rfl rfl rfl (OpJ.buildImm rfl slz39 (by decide) rfl rfl rfl) ?_
        refine AList.c 108 rfl rfl rfl (OpJ.load (v := .p (.agg k.cells)) rfl rfl ty41 rfl) ?_
        refine AList.c 109 rfl rfl rfl (OpJ.callP (cut_R c [l] k hcb (by unfold bigN; show 1 ≤ _; omega) (fun x hx => by simp at hx; subst hx; exact hs)) rfl rfl rfl rfl rf22) ?_
        refine AList.c 104 rfl rfl rfl (OpJ.move rfl rfl) ?_
        refine AList.c 110 rfl rfl rfl (OpJ.extract rfl rfl rfl) ?_
        refine AList.c 111 rfl rfl rfl (OpJ.extract rfl rfl rfl) ?_
        refine AList.c 112 rfl rfl rfl (OpJ.extract rfl rfl rfl) ?_
        refine AList.c 23 rfl rfl rfl (OpJ.assign rfl rfl) ?_
        refine AList.c 24 rfl rfl rfl (OpJ.assign rfl rfl) ?_
        refine AList.c 25 rfl rfl rfl (OpJ.assign rfl rfl) ?_
        refine AList.nil ?_
        refine AWp.seq ?_
        refine AWp.seq ?_
        refine AWp.region ?_
        refine AList.c 113 rfl rfl rfl (OpJ.move rfl rfl) ?_
        refine AList.c 114 rfl rfl rfl (OpJ.lenSlice rfl rfl sl22 rfl) ?_
        refine AList.c 115 rfl rfl rfl (OpJ.move rfl rfl) ?_
        refine AList.nil ?_
        refine AWp.block ?_
        refine AWp.loopHL [0, 2, 5, 9, 10, 11, 13, 14, 18, 19, 21, 22, 23, 25, 27, 28, 114, 128, 129, 130, 131, 132, 133, 134, 135, 136, 137, 138, 139, 140, 141, 142, 143, 144, 145, 146, 147, 148, 149, 150, 151, 152, 153, 154, 155, 156, 157, 158, 159, 160, 161, 162, 163, 164, 165, 166, 167, 168, 169, 170, 171, 172, 173, 174, 175, 176, 177, 178, 179] (fun g => [(115, .p (.int .i64 ((g : Nat) : Int)))]) (fun g => []) (fun g => g ≤ c.length) (fun g => c.length - g) 0 (Nat.zero_le _) (To.sub (Sub.chk (Sub.cons rfl (Sub.nil)))) (fun i hg => ?_)
        refine AWp.seq ?_
        refine AWp.region ?_
        refine AList.c 116 rfl rfl rfl (OpJ.lss rfl rfl rfl) ?_
        refine AList.nil ?_
        refine AWp.seq ?_
        refine AWp.cond _ rfl (fun hc3 => ?_) (fun hc3 => ?_)
        · skip
          have hk0 : i < c.length := by have h := of_decide_eq_true hc3; omega
          refine AWp.skip ?_
          refine AWp.seq ?_
          refine AWp.block ?_
          refine AWp.seq ?_
          refine AWp.region ?_
          refine AList.c 117 rfl rfl rfl (OpJ.move rfl rfl) ?_
          refine AList.c 26 rfl rfl rfl (OpJ.assign rfl rfl) ?_
          refine AList.nil ?_
          refine AWp.seq ?_
          refine AWp.regionDraw 9 mixed (by kernel_rfl) (by decide) ?_
          refine AQuiet.cons 118 rfl rfl rfl (OpJ.move rfl rfl) ?_
          refine AQuiet.cons 119 rfl rfl rfl (OpJ.move rfl rfl) ?_
          refine AQuiet.cons 120 rfl rfl rfl (OpJ.indexG (g := tn c) (fun _ h => tn_get h) rfl rfl rfl sl22 el22 rfl (fun _ => rfl) (by decide) hk0) ?_
          refine AQuiet.cons 121 rfl rfl rfl (OpJ.load (v := .p (.agg (tn c i).cells)) rfl rfl ty84 rfl) ?_
          refine AQuiet.cons 122 rfl rfl rfl (OpJ.move rfl rfl) ?_
          refine AQuiet.cons 123 rfl rfl rfl (OpJ.move rfl rfl) ?_
          refine AQuiet.cons 124 rfl rfl rfl (OpJ.indexG (g := tn c) (fun _ h => tn_get h) rfl rfl rfl sl22 el22 rfl (fun _ => rfl) (by decide) hk0) ?_
          refine AQuiet.cons 125 rfl rfl rfl (OpJ.load (v := .p (.agg (tn c i).cells)) rfl rfl ty84 rfl) ?_
          refine AQuiet.cons 126 rfl rfl rfl (OpJ.eqAgg (d := 8) rfl (.inr rfl) rfl rfl (by decide) eq84 ty84 rfl eg84 rfl) ?_
          refine AQuiet.nil ?_
          refine AList.nil ?_
          refine AWp.cond _ rfl (fun hc4 => ?_) (fun hc4 => ?_)
          · skip
            exfalso
            simp at hc4
          · skip
            refine AWp.skip ?_
            refine AWp.region ?_
            refine AList.c 127 rfl rfl rfl (OpJ.add rfl rfl rfl (i64ok ?_)) ?_
            · omega
            refine AList.c 115 rfl rfl rfl (OpJ.move rfl rfl) ?_
            refine AList.nil ?_
            refine ⟨i + 1, ?_, ?_, ?_⟩
            · omega
            · omega
            exact To.done [] rfl (by repeat (first | exact Sub.nil | refine Sub.cons rfl ?_)) rfl
        · skip
          refine AWp.exit ?_
          refine AWp.seq ?_
          refine AWp.seq ?_
          refine AWp.region ?_
          refine AList.c 128 rfl rfl rfl (OpJ.move rfl rfl) ?_
          refine AList.c 129 rfl rfl rfl (OpJ.lenSlice rfl rfl sl26 rfl) ?_
          refine AList.c 130 rfl rfl rfl (OpJ.move rfl rfl) ?_
          refine AList.nil ?_
          refine AWp.block ?_
          refine AWp.loopHL [2, 5, 10, 11, 13, 14, 18, 19, 21, 22, 23, 25, 28, 129, 144, 145, 146, 147, 148, 149, 150, 151, 152, 153, 154, 155, 156, 157, 158, 159, 160, 161, 162, 163, 164, 165, 166, 167, 168, 169, 170, 171, 172, 173, 174, 175, 176, 177, 178, 179] (fun g => [(130, .p (.int .i64 ((g : Nat) : Int)))]) (fun g => []) (fun g => g ≤ l.st.length) (fun g => l.st.length - g) 0 (Nat.zero_le _) (To.sub (Sub.chk (Sub.cons rfl (Sub.nil)))) (fun i hg => ?_)
          refine AWp.seq ?_
          refine AWp.region ?_
          refine AList.c 131 rfl rfl rfl (OpJ.lss rfl rfl rfl) ?_
          refine AList.nil ?_
          refine AWp.seq ?_
          refine AWp.cond _ rfl (fun hc5 => ?_) (fun hc5 => ?_)
          · skip
            have hk0 : i < l.st.length := by have h := of_decide_eq_true hc5; omega
            refine AWp.skip ?_
            refine AWp.seq ?_
            refine AWp.block ?_
            refine AWp.seq ?_
            refine AWp.region ?_
            refine AList.c 132 rfl rfl rfl (OpJ.move rfl rfl) ?_
            refine AList.c 27 rfl rfl rfl (OpJ.assign rfl rfl) ?_
            refine AList.nil ?_
            refine AWp.seq ?_
            refine AWp.regionDraw 10 mixed (by kernel_rfl) (by decide) ?_
            refine AQuiet.cons 133 rfl rfl rfl (OpJ.move rfl rfl) ?_
            refine AQuiet.cons 134 rfl rfl rfl (OpJ.move rfl rfl) ?_
            refine AQuiet.cons 135 rfl rfl rfl (OpJ.indexG (g := stk l.st) (fun _ h => stk_get h) rfl rfl rfl sl26 el26 rfl (fun _ => rfl) (by decide) hk0) ?_
            refine AQuiet.cons 136 rfl rfl rfl (OpJ.load (v := .p (.agg (stk l.st i).cells)) rfl rfl ty51 rfl) ?_
            refine AQuiet.cons 137 rfl rfl rfl (OpJ.fieldAddr rfl rfl fd28_3 rfl) ?_
            refine AQuiet.cons 138 rfl rfl rfl (OpJ.load (v := .p (stV l.st)) rfl rfl ty26 rfl) ?_
            refine AQuiet.cons 139 rfl rfl rfl (OpJ.move rfl rfl) ?_
            refine AQuiet.cons 140 rfl rfl rfl (OpJ.indexG (g := stk l.st) (fun _ h => stk_get h) rfl rfl rfl sl26 el26 rfl (fun _ => rfl) (by decide) hk0) ?_
            refine AQuiet.cons 141 rfl rfl rfl (OpJ.load (v := .p (.agg (stk l.st i).cells)) rfl rfl ty51 rfl) ?_
            refine AQuiet.cons 142 rfl rfl rfl (OpJ.eqAgg (d := 8) rfl (.inr rfl) rfl rfl (by decide) eq51 ty51 rfl eg51 rfl) ?_
            refine AQuiet.nil ?_
            refine AList.nil ?_
            refine AWp.cond _ rfl (fun hc6 => ?_) (fun hc6 => ?_)
            · skip
              exfalso
              simp at hc6
            · skip
              refine AWp.skip ?_
              refine AWp.region ?_
              refine AList.c 143 rfl rfl rfl (OpJ.add rfl rfl rfl (i64ok ?_)) ?_
              · omega
              refine AList.c 130 rfl rfl rfl (OpJ.move rfl rfl) ?_
              refine AList.nil ?_
              refine ⟨i + 1, ?_, ?_, ?_⟩
              · omega
              · omega
              exact To.done [] rfl (by repeat (first | exact Sub.nil | refine Sub.cons rfl ?_)) rfl
          · skip
            refine AWp.exit ?_
            refine AWp.seq ?_
            refine AWp.seq ?_
            refine AWp.region ?_
            refine AList.c 144 rfl rfl rfl (OpJ.move rfl rfl) ?_
            refine AList.c 145 rfl rfl rfl (OpJ.lenSlice rfl rfl sl23 rfl) ?_
            refine AList.c 146 rfl rfl rfl (OpJ.move rfl rfl) ?_
            refine AList.nil ?_
            refine AWp.block ?_
            refine AWp.loopHL [2, 11, 13, 14, 18, 19, 21, 22, 23, 25, 145, 159, 160, 161, 162, 163, 164, 165, 166, 167, 168, 169, 170, 171, 172, 173, 174, 175, 176, 177, 178, 179] (fun g => [(146, .p (.int .i64 ((g : Nat) : Int)))]) (fun g => []) (fun g => g ≤ s.length) (fun g => s.length - g) 0 (Nat.zero_le _) (To.sub (Sub.chk (Sub.cons rfl (Sub.nil)))) (fun i hg => ?_)
            refine AWp.seq ?_
            refine AWp.region ?_
            refine AList.c 147 rfl rfl rfl (OpJ.lss rfl rfl rfl) ?_
            refine AList.nil ?_
            refine AWp.seq ?_
            refine AWp.cond _ rfl (fun hc7 => ?_) (fun hc7 => ?_)
            · skip
              have hk0 : i < s.length := by have h := of_decide_eq_true hc7; omega
              refine AWp.skip ?_
              refine AWp.seq ?_
              refine AWp.block ?_
              refine AWp.seq ?_
              refine AWp.region ?_
              refine AList.c 148 rfl rfl rfl (OpJ.move rfl rfl) ?_
              refine AList.c 28 rfl rfl rfl (OpJ.assign rfl rfl) ?_
              refine AList.nil ?_
              refine AWp.seq ?_
              refine AWp.regionDraw 9 mixed (by kernel_rfl) (by decide) ?_
              refine AQuiet.cons 149 rfl rfl rfl (OpJ.move rfl rfl) ?_
              refine AQuiet.cons 150 rfl rfl rfl (OpJ.move rfl rfl) ?_
              refine AQuiet.cons 151 rfl rfl rfl (OpJ.indexG (g := sh s) (fun _ h => sh_get h) rfl rfl rfl sl23 el23 rfl (fun _ => rfl) (by decide) hk0) ?_
              refine AQuiet.cons 152 rfl rfl rfl (OpJ.load (v := .p (.agg (sh s i).cells)) rfl rfl ty66 rfl) ?_
              refine AQuiet.cons 153 rfl rfl rfl (OpJ.move rfl rfl) ?_
              refine AQuiet.cons 154 rfl rfl rfl (OpJ.move rfl rfl) ?_
              refine AQuiet.cons 155 rfl rfl rfl (OpJ.indexG (g := sh s) (fun _ h => sh_get h) rfl rfl rfl sl23 el23 rfl (fun _ => rfl) (by decide) hk0) ?_
              refine AQuiet.cons 156 rfl rfl rfl (OpJ.load (v := .p (.agg (sh s i).cells)) rfl rfl ty66 rfl) ?_
              refine AQuiet.cons 157 rfl rfl rfl (OpJ.eqAgg (d := 8) rfl (.inr rfl) rfl rfl (by decide) eq66 ty66 rfl eg66 rfl) ?_
              refine AQuiet.nil ?_
              refine AList.nil ?_
              refine AWp.cond _ rfl (fun hc8 => ?_) (fun hc8 => ?_)
              · skip
                exfalso
                simp at hc8
              · skip
                refine AWp.skip ?_
                refine AWp.region ?_
                refine AList.c 158 rfl rfl rfl (OpJ.add rfl rfl rfl (i64ok ?_)) ?_
                · omega
                refine AList.c 146 rfl rfl rfl (OpJ.move rfl rfl) ?_
                refine AList.nil ?_
                refine ⟨i + 1, ?_, ?_, ?_⟩
                · omega
                · omega
                exact To.done [] rfl (by repeat (first | exact Sub.nil | refine Sub.cons rfl ?_)) rfl
            · skip
              refine AWp.exit ?_
              refine AWp.seq ?_
              refine AWp.region ?_
              refine AList.c 159 rfl rfl rfl (OpJ.move rfl rfl) ?_
              refine AList.c 160 rfl rfl rfl (OpJ.move rfl rfl) ?_
              refine AList.c 161 rfl rfl rfl (OpJ.callP (ints_ok (hasR c s l).1 (hasR c s l).1 hxb hxb) rfl rfl rfl rfl rf19) ?_
              refine AList.c 162 rfl rfl rfl (OpJ.move rfl rfl) ?_
              refine AList.g 163 162 rfl rfl rfl rfl rfl rfl rfl [(13, _)] (fun h => And.intro (.inl rfl) (trivial)) (fun h => (OpJ.move rfl rfl)) ?_
              refine AList.g 164 162 rfl rfl rfl rfl rfl rfl rfl [(22, _)] (fun h => And.intro (.inl rfl) (trivial)) (fun h => (OpJ.move rfl rfl)) ?_
              refine AList.g 165 162 rfl rfl rfl rfl rfl rfl rfl [(163, _), (164, _)] (fun h => And.intro (.inr ⟨_, rfl, h⟩) (And.intro (.inr ⟨_, rfl, h⟩) (trivial))) (fun h => (OpJ.eql rfl rfl rfl)) ?_
              refine AList.c 166 rfl rfl rfl (OpJ.and_ rfl rfl rfl ?_) ?_
              · first | (intro h; rw [h]; rfl) | (intro h; simp_all)
              refine AList.c 167 rfl rfl rfl (OpJ.move rfl rfl) ?_
              refine AList.g 168 167 rfl rfl rfl rfl rfl rfl rfl [(23, _)] (fun h => And.intro (.inl rfl) (trivial)) (fun h => (OpJ.move rfl rfl)) ?_
              refine AList.g 169 167 rfl rfl rfl rfl rfl rfl rfl [(19, _)] (fun h => And.intro (.inl rfl) (trivial)) (fun h => (OpJ.move rfl rfl)) ?_
              refine AList.g 170 167 rfl rfl rfl rfl rfl rfl rfl [(168, _), (169, _)] (fun h => And.intro (.inr ⟨_, rfl, h⟩) (And.intro (.inr ⟨_, rfl, h⟩) (trivial))) (fun h => (OpJ.callP (ints_ok (cutR c [l] k).1 (cutR c [l] k).1 hcb9 hcb9) rfl rfl rfl rfl rf19)) ?_
              refine AList.c 171 rfl rfl rfl (OpJ.and_ rfl rfl rfl ?_) ?_
              · first | (intro h; rw [h]; rfl) | (intro h; simp_all)
              refine AList.c 172 rfl rfl rfl (OpJ.move rfl rfl) ?_
              refine AList.g 173 172 rfl rfl rfl rfl rfl rfl rfl [(18, _)] (fun h => And.intro (.inl rfl) (trivial)) (fun h => (OpJ.move rfl rfl)) ?_
              refine AList.g 174 172 rfl rfl rfl rfl rfl rfl rfl [(25, _)] (fun h => And.intro (.inl rfl) (trivial)) (fun h => (OpJ.move rfl rfl)) ?_
              refine AList.g 175 172 rfl rfl rfl rfl rfl rfl rfl [(173, _), (174, _)] (fun h => And.intro (.inr ⟨_, rfl, h⟩) (And.intro (.inr ⟨_, rfl, h⟩) (trivial))) (fun h => (OpJ.eql rfl rfl rfl)) ?_
              refine AList.c 176 rfl rfl rfl (OpJ.and_ rfl rfl rfl ?_) ?_
              · first | (intro h; rw [h]; rfl) | (intro h; simp_all)
              refine AList.c 177 rfl rfl rfl (OpJ.move rfl rfl) ?_
              refine AList.g 178 177 rfl rfl rfl rfl rfl rfl rfl [] (fun h => trivial) (fun h => (OpJ.callP (alive_ok) rfl rfl rfl rfl rf14)) ?_
              refine AList.c 179 rfl rfl rfl (OpJ.and_ rfl rfl rfl ?_) ?_
              · first | (intro h; rw [h]; rfl) | (intro h; simp_all)
              refine AList.c 8 rfl rfl rfl (OpJ.assign rfl rfl) ?_
              refine AList.nil ?_
              refine AWp.ret ?_
              refine Fin.oneE rfl rfl ?_
              simp
theorem shadeOwns_law {x0 x1 x2 x3 : List PV} (h0 : TyL [.sl [.leaf (.int .i64), .leaf (.int .i64)]] x0) (h1 : TyL [.leaf (.int .i64), .leaf (.int .i64), .leaf (.int .i64), .leaf (.int .i64), .leaf (.int .i64), .sl [.leaf (.int .i64), .leaf (.int .i64), .leaf (.int .i64), .leaf (.int .i64)], .leaf (.int .i64), .leaf (.int .i64), .leaf (.int .i64), .leaf (.int .i64), .leaf (.int .i64)] x1) (h2 : TyL [.sl [.leaf (.int .i64), .leaf (.int .i64), .leaf (.int .i64), .leaf (.int .i64), .leaf (.int .i64), .leaf (.int .i64)]] x2) (h3 : TyL [.leaf (.int .i64), .leaf (.int .i64), .leaf (.int .i64), .leaf (.int .i64)] x3) : Pure Try.prog 12 [argP false x0, argP true x1, argP false x2, argP true x3] (.bool true) := by
  obtain ⟨c, rfl, hc⟩ := cur_of h0
  obtain ⟨l, rfl, hl⟩ := ld_of h1
  obtain ⟨s, rfl, hs⟩ := shds_of h2
  obtain ⟨k, rfl⟩ := scl_of h3
  exact shadeOwns_main c l s k hc hl hs
end Go.Proofs.Ythiapodcippnoaa
