/-
  What is known of a crate.
-/
import Derived.Test.YtofenmailjdehaaDoorXrFacts
import Derived.Test.YtofenmailjdehaaDoorXr4
set_option linter.unusedVariables false
set_option maxRecDepth 100000
set_option maxHeartbeats 4000000
set_option linter.unusedSimpArgs false
namespace Go.Proofs.YtofenmailjdehaaDoor
open Go.AF
def opE (c : Crt) (l : List Lk) : Int := if crB c = true then (if (l.length : Int) > 40 then 3 else if l.any (wrB c) = true then 2 else if (truL c l).length = 0 then 6 else 0) else 1
def opV (c : Crt) (l : List Lk) : PV := if opE c l = 0 then .ip (picL (picF c (truL c l))) 0 else .nilPtr
theorem opE_0 {c : Crt} {l : List Lk} (h : opE c l = 0) : crB c = true ∧ l.length ≤ 40 ∧ (∀ x ∈ l, wrB c x = false) ∧ truL c l ≠ [] := by
  unfold opE at h
  split at h
  · rename_i h1
    split at h
    · cases h
    · rename_i h2
      split at h
      · cases h
      · rename_i h3
        split at h
        · cases h
        · rename_i h4
          refine ⟨h1, by omega, fun x hx => ?_, fun e => h4 (by rw [e]; rfl)⟩
          cases h5 : wrB c x with
          | false => rfl
          | true => exact absurd (List.any_eq_true.2 ⟨x, hx, h5⟩) h3
  · cases h
theorem truX_get {c : Crt} {l : List Lk} {k : Nat} {x : List V} (h : (truX c l)[k]? = some x) : ∃ t, (truL c l)[k]? = some t ∧ x = [V.p (.agg (truC t))] := by
  unfold truX at h
  rw [List.getElem?_map, Option.map_eq_some_iff] at h
  obtain ⟨q, h1, h2⟩ := h
  exact ⟨q, h1, h2.symm⟩
theorem truX_len (c : Crt) (l : List Lk) : (truX c l).length = (truL c l).length := by unfold truX; rw [List.length_map]
theorem open_ok (c : Crt) (l : List Lk) (hb : c.rows.length ≤ bigN) (hbl : l.length ≤ bigN) : Pure Tryd.prog 20 [crV c, lksV l, .bool true] (.tuple [opV c l, .int .i64 (opE c l)]) := by
  have hbl2 := hbl
  unfold bigN at hbl2
  refine Pure.start (N := 59) Tryd.func20 rfl rfl (Nat.le_of_ble_eq_true rfl) ?_
  refine AWp.seq ?_
  refine AWp.region ?_
  refine AList.c 3 rfl rfl rfl (OpJ.boxImm rfl rfl rfl) ?_
  refine AList.c 6 rfl rfl rfl (OpJ.assign rfl rfl) ?_
  refine AList.c 7 rfl rfl rfl (OpJ.assign rfl rfl) ?_
  refine AList.nil ?_
  refine AWp.seq ?_
  refine AWp.region ?_
  refine AList.c 14 rfl rfl rfl (OpJ.makeFunc rfl rfl rfl) ?_
  refine AList.c 8 rfl rfl rfl (OpJ.assign rfl rfl) ?_
  refine AList.nil ?_
  refine AWp.seq ?_
  refine AWp.block ?_
  refine AWp.seq ?_
  refine AWp.region ?_
  refine AList.c 16 rfl rfl rfl (OpJ.load (v := .p (crV c)) rfl rfl ty24 rfl) ?_
  refine AList.c 17 rfl rfl rfl (OpJ.callP (isCrate_ok c hb) rfl rfl rfl rfl rf39) ?_
  refine AList.c 18 rfl rfl rfl (OpJ.not_ rfl rfl) ?_
  refine AList.c 15 rfl rfl rfl (OpJ.assign rfl rfl) ?_
  refine AList.nil ?_
  refine AWp.cond _ rfl (fun hc0 => ?_) (fun hc0 => ?_)
  · skip
    have hC : ¬ crB c = true := by simpa using hc0
    refine AWp.seq ?_
    refine AWp.region ?_
    refine AList.c 6 rfl rfl rfl (OpJ.assign rfl rfl) ?_
    refine AList.c 7 rfl rfl rfl (OpJ.assign rfl rfl) ?_
    refine AList.nil ?_
    refine AWp.ret ?_
    refine Fin.manyE (xs := [.nilPtr, .int .i64 1]) rfl (⟨_, _, rfl, rfl, ⟨_, _, rfl, rfl, rfl⟩⟩) rfl ?_
    have e : opE c l = 1 := by unfold opE; rw [if_neg hC]
    unfold opV; rw [e]; rfl
  · skip
    have hC : crB c = true := by simpa using hc0
    refine AWp.seq ?_
    refine AWp.region ?_
    refine AList.c 20 rfl rfl rfl (OpJ.move rfl rfl) ?_
    refine AList.c 21 rfl rfl rfl (OpJ.lenSlice rfl rfl sl25 rfl) ?_
    refine AList.c 22 rfl rfl rfl (OpJ.gtr rfl rfl rfl) ?_
    refine AList.c 19 rfl rfl rfl (OpJ.assign rfl rfl) ?_
    refine AList.nil ?_
    refine AWp.cond _ rfl (fun hc1 => ?_) (fun hc1 => ?_)
    · skip
      have hL : (l.length : Int) > 40 := of_decide_eq_true hc1
      refine AWp.seq ?_
      refine AWp.region ?_
      refine AList.c 6 rfl rfl rfl (OpJ.assign rfl rfl) ?_
      refine AList.c 7 rfl rfl rfl (OpJ.assign rfl rfl) ?_
      refine AList.nil ?_
      refine AWp.ret ?_
      refine Fin.manyE (xs := [.nilPtr, .int .i64 3]) rfl (⟨_, _, rfl, rfl, ⟨_, _, rfl, rfl, rfl⟩⟩) rfl ?_
      have e : opE c l = 3 := by unfold opE; rw [if_pos hC, if_pos hL]
      unfold opV; rw [e]; rfl
    · skip
      have hL : ¬ (l.length : Int) > 40 := of_decide_eq_false hc1
      refine AWp.seq ?_
      refine AWp.region ?_
      refine AList.c 24 rfl rfl rfl (OpJ.move rfl rfl) ?_
      refine AList.c 25 rfl rfl rfl (OpJ.not_ rfl rfl) ?_
      refine AList.c 26 rfl rfl rfl (OpJ.move rfl rfl) ?_
      refine AList.g 27 26 rfl rfl rfl rfl rfl rfl rfl [(1, _)] (fun h => And.intro (.inl rfl) (trivial)) (fun h => (OpJ.move rfl rfl)) ?_
      refine AList.g 28 26 rfl rfl rfl rfl rfl rfl rfl [(8, _)] (fun h => And.intro (.inl rfl) (trivial)) (fun h => (OpJ.move rfl rfl)) ?_
      refine AList.g 29 26 rfl rfl rfl rfl rfl rfl rfl [(27, _), (28, _)] (fun h => And.intro (.inr ⟨_, rfl, h⟩) (And.intro (.inr ⟨_, rfl, h⟩) (trivial))) (fun h => (OpJ.callP (containsLk_ok l _ (wrB c) hbl (fun x _ => ⟨36, [.agg x.cells, .ip (crC c) 0], rfl, rf36, open1_ok c x hC⟩)) rfl rfl rfl rfl rf40)) ?_
      refine AList.c 30 rfl rfl rfl (OpJ.or_ rfl rfl rfl ?_) ?_
      · first | (intro h; rw [h]; rfl) | (intro h; simp_all)
      refine AList.c 23 rfl rfl rfl (OpJ.assign rfl rfl) ?_
      refine AList.nil ?_
      refine AWp.cond _ rfl (fun hc2 => ?_) (fun hc2 => ?_)
      · skip
        have hW : l.any (wrB c) = true := hc2
        refine AWp.seq ?_
        refine AWp.region ?_
        refine AList.c 6 rfl rfl rfl (OpJ.assign rfl rfl) ?_
        refine AList.c 7 rfl rfl rfl (OpJ.assign rfl rfl) ?_
        refine AList.nil ?_
        refine AWp.ret ?_
        refine Fin.manyE (xs := [.nilPtr, .int .i64 2]) rfl (⟨_, _, rfl, rfl, ⟨_, _, rfl, rfl, rfl⟩⟩) rfl ?_
        have e : opE c l = 2 := by unfold opE; rw [if_pos hC, if_neg hL, if_pos hW]
        unfold opV; rw [e]; rfl
      · skip
        have hW : ¬ l.any (wrB c) = true := by have h : l.any (wrB c) = false := hc2; rw [h]; decide
        have hw : ∀ x ∈ l, wrB c x = false := fun x hx => by cases h5 : wrB c x with | false => rfl | true => exact absurd (List.any_eq_true.2 ⟨x, hx, h5⟩) hW
        refine AWp.skip ?_
        refine AWp.seq ?_
        refine AWp.region ?_
        refine AList.c 9 rfl rfl rfl (OpJ.assign rfl rfl) ?_
        refine AList.nil ?_
        refine AWp.seq ?_
        refine AWp.seq ?_
        refine AWp.region ?_
        refine AList.c 31 rfl rfl rfl (OpJ.move rfl rfl) ?_
        refine AList.c 32 rfl rfl rfl (OpJ.lenSlice rfl rfl sl25 rfl) ?_
        refine AList.c 33 rfl rfl rfl (OpJ.move rfl rfl) ?_
        refine AList.nil ?_
        refine AWp.block ?_
        refine AWp.loopHL [3, 6, 7, 12, 13, 31, 32, 43, 44, 45, 46, 47, 48, 49, 50, 51, 53, 54, 55, 56, 57, 58] (fun g => [(33, .p (.int .i64 ((g : Nat) : Int))), (9, accV 0 g)]) (fun g => [accB (((l.take g).flatMap lookC).map .p) 113 g]) (fun g => g ≤ l.length) (fun g => l.length - g) 0 (Nat.zero_le _) (To.pad.trans (To.sub (Sub.chk (Sub.cons rfl (Sub.cons rfl Sub.nil))))) (fun i hg => ?_)
        refine AWp.seq ?_
        refine AWp.region ?_
        refine AList.c 34 rfl rfl rfl (OpJ.lss rfl rfl rfl) ?_
        refine AList.nil ?_
        refine AWp.seq ?_
        refine AWp.cond _ rfl (fun hc3 => ?_) (fun hc3 => ?_)
        · skip
          have hk0 : i < l.length := by have h := of_decide_eq_true hc3; omega
          have hv := wrB_of (hw _ (lkt_mem hk0))
          refine AWp.skip ?_
          refine AWp.seq ?_
          refine AWp.block ?_
          refine AWp.seq ?_
          refine AWp.region ?_
          refine AList.c 35 rfl rfl rfl (OpJ.indexG (g := lkt l) lkt_get rfl rfl rfl sl25 el25 rfl (fun _ => rfl) (by decide) hk0) ?_
          refine AList.c 36 rfl rfl rfl (OpJ.load (v := .p (.agg (lkt l i).cells)) rfl rfl ty33 rfl) ?_
          refine AList.c 11 rfl rfl rfl (OpJ.allocOwn rfl zr33 rfl) ?_
          refine AList.c0 rfl rfl (OpJ.store rfl rfl rfl rfl rfl ty33 rfl rfl) ?_
          refine AList.nil ?_
          refine AWp.region ?_
          refine AList.c 37 rfl rfl rfl (OpJ.move rfl rfl) ?_
          refine AList.c 38 rfl rfl rfl (OpJ.load (v := .p (.agg (lkt l i).cells)) rfl rfl ty33 rfl) ?_
          refine AList.c 39 rfl rfl rfl (OpJ.callP (lookOf_ok (lkt l i) hv.2.2.1 hv.2.2.2) rfl rfl rfl rfl rf41) ?_
          refine AList.c 40 rfl rfl rfl (OpJ.buildImm rfl slz111 (by decide) rfl rfl rfl) ?_
          refine AList.c 41 rfl rfl rfl (OpJ.appendAcc rfl rfl rfl slz111 sl111 rfl ?_ rfl (by decide) rfl by113 (by decide) ?_) ?_
          · rw [List.length_map, flat_len (c := 1) (fun _ => rfl), List.length_take]; show min _ _ * 1 = _ * 1; omega
          · omega
          refine AList.c 9 rfl rfl rfl (OpJ.assign rfl rfl) ?_
          refine AList.nil ?_
          refine AWp.region ?_
          refine AList.c 42 rfl rfl rfl (OpJ.add rfl rfl rfl (i64ok ?_)) ?_
          · omega
          refine AList.c 33 rfl rfl rfl (OpJ.move rfl rfl) ?_
          refine AList.nil ?_
          refine ⟨i + 1, ?_, ?_, ?_⟩
          · omega
          · omega
          refine To.done [2] rfl (by repeat (first | exact Sub.nil | refine Sub.cons rfl ?_)) ?_
          show [Blk.row (renL _ (_ ++ _)) _] = [Blk.row _ _]
          rw [renL_app, renL_pure, List.take_succ_eq_append_getElem hk0, lkt_get i hk0, List.flatMap_append, List.map_append]
          rfl
        · skip
          obtain rfl : i = l.length := by have h := of_decide_eq_false hc3; omega
          refine AWp.to (To.accD 9 0 l.length rfl rfl (fun h => by rw [h]; rfl)) ?_
          rw [List.take_length]
          refine AWp.exit ?_
          refine AWp.seq ?_
          refine AWp.region ?_
          refine AList.c 43 rfl rfl rfl (OpJ.buildR (v := .p (.agg (picL pic0))) rfl bd75 rfl rfl rfl) ?_
          refine AList.c 44 rfl rfl rfl (OpJ.boxOwn rfl rfl rfl) ?_
          refine AList.c 12 rfl rfl rfl (OpJ.allocOwn rfl zr69 rfl) ?_
          refine AList.c0 rfl rfl (OpJ.store rfl rfl rfl rfl rfl ty69 rfl rfl) ?_
          refine AList.nil ?_
          refine AWp.seq ?_
          refine AWp.seq ?_
          refine AWp.region ?_
          refine AList.c 45 rfl rfl rfl (OpJ.load (v := .p (crV c)) rfl rfl ty24 rfl) ?_
          refine AList.c 46 rfl rfl rfl (OpJ.move rfl rfl) ?_
          refine AList.c 47 rfl rfl rfl (OpJ.callP (truths_ok c l) rfl rfl rfl rfl rf42) ?_
          refine AList.nil ?_
          refine AWp.block ?_
          refine AWp.norm [1, 2] [(3, _), (12, _), (47, _)] [.cells (List.map V.p (picL (picF c ((truL c l).take 0)))) 75, .cells [.ptr 0 0] 69] rfl (by repeat (first | exact Sub.nil | refine Sub.cons rfl ?_)) rfl ?_
          refine AWp.rangeFuncZ rfl (fun _ => rfl) rf68 (truths_seq c l hC hw hbl) (fun _ h => by cases h) (fun x hx => by unfold truX at hx; simp at hx; obtain ⟨j, _, _, rfl⟩ := hx; rfl) rfl (fun k h => h = [.cells (List.map V.p (picL (picF c ((truL c l).take k)))) 75, .cells [.ptr 0 0] 69]) (fun c h => False) (fun _ _ h => by rw [h]; exact ⟨rfl, rfl⟩) (fun _ _ h => h.elim) rfl ?_ ?_ ?_
          · skip
            intro lx tmps k h x hJ hx
            subst hJ
            obtain ⟨t, ht, rfl⟩ := truX_get hx
            have hth := tru_B hC t (List.mem_of_getElem? ht)
            have hkl := (List.getElem?_eq_some_iff.1 ht).1
            have htl := tru_len hC l
            have hpb : PicB (picF c ((truL c l).take k)) := picF_B hC _ _ pic0_B fun x hx => tru_B hC x (List.mem_of_mem_take hx)
            have hpn : (picF c ((truL c l).take k)).n < 65536 := by unfold picF; rw [picF_n]; show 0 + _ < _; rw [List.length_take]; omega
            refine AWp.region ?_
            refine AList.c 13 rfl rfl rfl (OpJ.allocOwn rfl zr120 rfl) ?_
            refine AList.c0 rfl rfl (OpJ.store rfl rfl rfl rfl rfl ty120 rfl rfl) ?_
            refine AList.nil ?_
            refine ⟨rfl, rfl, ?_⟩
            refine AWp.block ?_
            refine AWp.region ?_
            refine AList.c 49 rfl rfl rfl (OpJ.load (v := .ptr 0 0) rfl rfl ty69 rfl) ?_
            refine AList.c 50 rfl rfl rfl (OpJ.load (v := .p (crV c)) rfl rfl ty24 rfl) ?_
            refine AList.c 51 rfl rfl rfl (OpJ.load (v := .p (.agg (truC t))) rfl rfl ty120 rfl) ?_
            refine AList.callXK 52 [0] (all := [.ptr 0 0, .p (crV c), .p (.agg (truC t))]) (by show ACalls _ _ _ [Blk.cells (renL _ (List.map V.p _)) _] _; rw [renL_pure]; exact add_ok c (picF c ((truL c l).take k)) t.1 t.2 hC hpb hpn hth.1 hth.2) (fun v H2 h => by rw [h]; rfl) (by rfl) (by rfl) rfl rfl rfl rfl rfl rfl rfl rf43 (fun v H2 hQ2 => ?_)
            subst hQ2
            refine AList.nil ?_
            refine ⟨_, rfl, To.done [0, 1, 2] rfl Sub.nil ?_⟩
            show [Blk.cells (renL _ (renL _ (List.map V.p _))) _, _, _] = [Blk.cells _ _, _, _]
            rw [renL_pure, renL_pure, take_snoc ht, picF_snoc]
            rfl
          · skip
            intro h hJ
            subst hJ
            rw [truX_len, List.take_length]
            have hcnt : (picF c (truL c l)).n = (truL c l).length := by unfold picF; rw [picF_n]; show 0 + _ = _; omega
            refine AWp.seq ?_
            refine AWp.seq ?_
            refine AWp.region ?_
            refine AList.c 53 rfl rfl rfl (OpJ.load (v := .ptr 0 0) rfl rfl ty69 rfl) ?_
            refine AList.c 54 rfl rfl rfl (OpJ.nilCheck rfl rfl) ?_
            refine AList.c 55 rfl rfl rfl (OpJ.fieldAddr rfl rfl fd75_3 rfl) ?_
            refine AList.c 56 rfl rfl rfl (OpJ.loadCell (k := 70) (v := (.p (.int .i64 ((picF c (truL c l)).n : Int)))) rfl rfl ty3 rfl rfl (picL_n _)) ?_
            refine AList.c 57 rfl rfl rfl (OpJ.eql rfl rfl rfl) ?_
            refine AList.nil ?_
            refine AWp.cond _ rfl (fun hc4 => ?_) (fun hc4 => ?_)
            · skip
              have hz : (truL c l).length = 0 := by have h := of_decide_eq_true hc4; rw [hcnt] at h; omega
              refine AWp.seq ?_
              refine AWp.region ?_
              refine AList.c 6 rfl rfl rfl (OpJ.assign rfl rfl) ?_
              refine AList.c 7 rfl rfl rfl (OpJ.assign rfl rfl) ?_
              refine AList.nil ?_
              refine AWp.ret ?_
              refine Fin.manyE (xs := [.nilPtr, .int .i64 6]) rfl (⟨_, _, rfl, rfl, ⟨_, _, rfl, rfl, rfl⟩⟩) rfl ?_
              have e : opE c l = 6 := by unfold opE; rw [if_pos hC, if_neg hL, if_neg hW, if_pos hz]
              unfold opV; rw [e]; rfl
            · skip
              have hz : ¬ (truL c l).length = 0 := by have h := of_decide_eq_false hc4; rw [hcnt] at h; omega
              have hE0 : opE c l = 0 := by unfold opE; rw [if_pos hC, if_neg hL, if_neg hW, if_neg hz]
              refine AWp.skip ?_
              refine AWp.seq ?_
              refine AWp.region ?_
              refine AList.c 58 rfl rfl rfl (OpJ.load (v := .ptr 0 0) rfl rfl ty69 rfl) ?_
              refine AList.c 6 rfl rfl rfl (OpJ.assign rfl rfl) ?_
              refine AList.c 7 rfl rfl rfl (OpJ.assign rfl rfl) ?_
              refine AList.nil ?_
              refine AWp.norm [0] [(6, _), (7, _)] [.cells (List.map V.p (picL (picF c (truL c l)))) 75] rfl (by repeat (first | exact Sub.nil | refine Sub.cons rfl ?_)) (by show [Blk.cells (renL _ (List.map V.p _)) _] = _; rw [renL_pure]) ?_
              refine AWp.freeze 0 rfl (allP_map _) ?_
              refine AWp.ret ?_
              refine Fin.manyE (xs := [.ip (picL (picF c (truL c l))) 0, .int .i64 0]) rfl (⟨_, _, rfl, rfl, ⟨_, _, rfl, rfl, rfl⟩⟩) rfl ?_
              unfold opV; rw [hE0, if_pos rfl]
          · skip
            intro c h hx
            exact hx.elim
def cntS (c : Crt) (l : List Lk) : Int × Int := if opE c l = 0 then ((picF c (truL c l)).lo, (picF c (truL c l)).hi) else (0, 0)
def fouL (c : Crt) (l : List Lk) : List Nat := if opE c l = 0 then [(picF c (truL c l)).cr, (picF c (truL c l)).cc, (picF c (truL c l)).sr, (picF c (truL c l)).sc] else [0, 0, 0, 0]
def fouC (c : Crt) (l : List Lk) : List PV := (fouL c l).map fun n : Nat => .int .i64 (n : Int)
theorem count_ok (c : Crt) (l : List Lk) (hb : c.rows.length ≤ bigN) (hbl : l.length ≤ bigN) : Pure Tryd.prog 9 [crV c, lksV l] (.tuple [.agg [.int .i64 (cntS c l).1, .int .i64 (cntS c l).2], .int .i64 (opE c l)]) := by
  refine Pure.start (N := 22) Tryd.func9 rfl rfl (Nat.le_of_ble_eq_true rfl) ?_
  refine AWp.seq ?_
  refine AWp.region ?_
  refine AList.c 2 rfl rfl rfl (OpJ.boxImm rfl rfl rfl) ?_
  refine AList.c 4 rfl rfl rfl (OpJ.allocOwn rfl zr40 rfl) ?_
  refine AList.c 5 rfl rfl rfl (OpJ.assign rfl rfl) ?_
  refine AList.nil ?_
  refine AWp.seq ?_
  refine AWp.region ?_
  refine AList.c 9 rfl rfl rfl (OpJ.load (v := .p (crV c)) rfl rfl ty24 rfl) ?_
  refine AList.c 10 rfl rfl rfl (OpJ.move rfl rfl) ?_
  refine AList.c 11 rfl rfl rfl (OpJ.callP (open_ok c l hb hbl) rfl rfl rfl rfl rf20) ?_
  refine AList.c 8 rfl rfl rfl (OpJ.move rfl rfl) ?_
  refine AList.c 12 rfl rfl rfl (OpJ.extract rfl rfl rfl) ?_
  refine AList.c 13 rfl rfl rfl (OpJ.extract rfl rfl rfl) ?_
  refine AList.c 6 rfl rfl rfl (OpJ.assign rfl rfl) ?_
  refine AList.c 7 rfl rfl rfl (OpJ.assign rfl rfl) ?_
  refine AList.nil ?_
  refine AWp.seq ?_
  refine AWp.seq ?_
  refine AWp.region ?_
  refine AList.c 14 rfl rfl rfl (OpJ.move rfl rfl) ?_
  refine AList.c 15 rfl rfl rfl (OpJ.neq rfl rfl rfl) ?_
  refine AList.nil ?_
  refine AWp.cond _ rfl (fun hc0 => ?_) (fun hc0 => ?_)
  · skip
    have hE : opE c l ≠ 0 := by simpa using hc0
    refine AWp.seq ?_
    refine AWp.region ?_
    refine AList.c 16 rfl rfl rfl (OpJ.buildR (v := .p (.agg [.int .i64 0, .int .i64 0])) rfl bd40 rfl rfl rfl) ?_
    refine AList.c 17 rfl rfl rfl (OpJ.move rfl rfl) ?_
    refine AList.c0 rfl rfl (OpJ.store rfl rfl rfl rfl rfl ty40 rfl rfl) ?_
    refine AList.c 5 rfl rfl rfl (OpJ.assign rfl rfl) ?_
    refine AList.nil ?_
    refine AWp.ret ?_
    refine Fin.manyE (xs := [.agg [.int .i64 0, .int .i64 0], .int .i64 (opE c l)]) rfl (⟨_, _, rfl, ⟨_, _, _, rfl, ty40, rfl⟩, ⟨_, _, rfl, rfl, rfl⟩⟩) rfl ?_
    unfold cntS; rw [if_neg hE]
  · skip
    have hE : opE c l = 0 := by simpa using hc0
    rw [show opV c l = .ip (picL (picF c (truL c l))) 0 from by unfold opV; rw [if_pos hE]]
    refine AWp.skip ?_
    refine AWp.seq ?_
    refine AWp.region ?_
    refine AList.c 18 rfl rfl rfl (OpJ.move rfl rfl) ?_
    refine AList.c 19 rfl rfl rfl (OpJ.nilCheckP rfl rfl) ?_
    refine AList.c 20 rfl rfl rfl (OpJ.fieldAddr rfl rfl fd75_1 rfl) ?_
    refine AList.c 21 rfl rfl rfl (OpJ.load (v := .p (.agg [.int .i64 (picF c (truL c l)).lo, .int .i64 (picF c (truL c l)).hi])) rfl rfl ty40 rfl) ?_
    refine AList.c0 rfl rfl (OpJ.store rfl rfl rfl rfl rfl ty40 rfl rfl) ?_
    refine AList.c 5 rfl rfl rfl (OpJ.assign rfl rfl) ?_
    refine AList.nil ?_
    refine AWp.ret ?_
    refine Fin.manyE (xs := [.agg [.int .i64 (picF c (truL c l)).lo, .int .i64 (picF c (truL c l)).hi], .int .i64 0]) rfl (⟨_, _, rfl, ⟨_, _, _, rfl, ty40, rfl⟩, ⟨_, _, rfl, rfl, rfl⟩⟩) rfl ?_
    unfold cntS; rw [if_pos hE, hE]
theorem causes_ok (c : Crt) (l : List Lk) (hb : c.rows.length ≤ bigN) (hbl : l.length ≤ bigN) : Pure Tryd.prog 8 [crV c, lksV l] (.tuple [.agg (fouC c l), .int .i64 (opE c l)]) := by
  refine Pure.start (N := 22) Tryd.func8 rfl rfl (Nat.le_of_ble_eq_true rfl) ?_
  refine AWp.seq ?_
  refine AWp.region ?_
  refine AList.c 2 rfl rfl rfl (OpJ.boxImm rfl rfl rfl) ?_
  refine AList.c 4 rfl rfl rfl (OpJ.allocOwn rfl zr35 rfl) ?_
  refine AList.c 5 rfl rfl rfl (OpJ.assign rfl rfl) ?_
  refine AList.nil ?_
  refine AWp.seq ?_
  refine AWp.region ?_
  refine AList.c 9 rfl rfl rfl (OpJ.load (v := .p (crV c)) rfl rfl ty24 rfl) ?_
  refine AList.c 10 rfl rfl rfl (OpJ.move rfl rfl) ?_
  refine AList.c 11 rfl rfl rfl (OpJ.callP (open_ok c l hb hbl) rfl rfl rfl rfl rf20) ?_
  refine AList.c 8 rfl rfl rfl (OpJ.move rfl rfl) ?_
  refine AList.c 12 rfl rfl rfl (OpJ.extract rfl rfl rfl) ?_
  refine AList.c 13 rfl rfl rfl (OpJ.extract rfl rfl rfl) ?_
  refine AList.c 6 rfl rfl rfl (OpJ.assign rfl rfl) ?_
  refine AList.c 7 rfl rfl rfl (OpJ.assign rfl rfl) ?_
  refine AList.nil ?_
  refine AWp.seq ?_
  refine AWp.seq ?_
  refine AWp.region ?_
  refine AList.c 14 rfl rfl rfl (OpJ.move rfl rfl) ?_
  refine AList.c 15 rfl rfl rfl (OpJ.neq rfl rfl rfl) ?_
  refine AList.nil ?_
  refine AWp.cond _ rfl (fun hc0 => ?_) (fun hc0 => ?_)
  · skip
    have hE : opE c l ≠ 0 := by simpa using hc0
    refine AWp.seq ?_
    refine AWp.region ?_
    refine AList.c 16 rfl rfl rfl (OpJ.buildR (v := .p (.agg [.int .i64 0, .int .i64 0, .int .i64 0, .int .i64 0])) rfl bd35 rfl rfl rfl) ?_
    refine AList.c 17 rfl rfl rfl (OpJ.move rfl rfl) ?_
    refine AList.c0 rfl rfl (OpJ.store rfl rfl rfl rfl rfl ty35 rfl rfl) ?_
    refine AList.c 5 rfl rfl rfl (OpJ.assign rfl rfl) ?_
    refine AList.nil ?_
    refine AWp.ret ?_
    refine Fin.manyE (xs := [.agg [.int .i64 0, .int .i64 0, .int .i64 0, .int .i64 0], .int .i64 (opE c l)]) rfl (⟨_, _, rfl, ⟨_, _, _, rfl, ty35, rfl⟩, ⟨_, _, rfl, rfl, rfl⟩⟩) rfl ?_
    unfold fouC fouL; rw [if_neg hE]; rfl
  · skip
    have hE : opE c l = 0 := by simpa using hc0
    rw [show opV c l = .ip (picL (picF c (truL c l))) 0 from by unfold opV; rw [if_pos hE]]
    refine AWp.skip ?_
    refine AWp.seq ?_
    refine AWp.region ?_
    refine AList.c 18 rfl rfl rfl (OpJ.move rfl rfl) ?_
    refine AList.c 19 rfl rfl rfl (OpJ.nilCheckP rfl rfl) ?_
    refine AList.c 20 rfl rfl rfl (OpJ.fieldAddr rfl rfl fd75_0 rfl) ?_
    refine AList.c 21 rfl rfl rfl (OpJ.load (v := .p (.agg [.int .i64 ((picF c (truL c l)).cr : Int), .int .i64 ((picF c (truL c l)).cc : Int), .int .i64 ((picF c (truL c l)).sr : Int), .int .i64 ((picF c (truL c l)).sc : Int)])) rfl rfl ty35 rfl) ?_
    refine AList.c0 rfl rfl (OpJ.store rfl rfl rfl rfl rfl ty35 rfl rfl) ?_
    refine AList.c 5 rfl rfl rfl (OpJ.assign rfl rfl) ?_
    refine AList.nil ?_
    refine AWp.ret ?_
    refine Fin.manyE (xs := [.agg [.int .i64 ((picF c (truL c l)).cr : Int), .int .i64 ((picF c (truL c l)).cc : Int), .int .i64 ((picF c (truL c l)).sr : Int), .int .i64 ((picF c (truL c l)).sc : Int)], .int .i64 0]) rfl (⟨_, _, rfl, ⟨_, _, _, rfl, ty35, rfl⟩, ⟨_, _, rfl, rfl, rfl⟩⟩) rfl ?_
    unfold fouC fouL; rw [if_pos hE, hE]; rfl
end Go.Proofs.YtofenmailjdehaaDoor
