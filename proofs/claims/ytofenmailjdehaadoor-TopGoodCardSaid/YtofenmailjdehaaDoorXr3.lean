/-
  The truths that fit, one after the other.
-/
import Derived.Test.YtofenmailjdehaaDoorXrFacts
import Derived.Test.YtofenmailjdehaaDoorXr2
set_option linter.unusedVariables false
set_option maxRecDepth 100000
set_option maxHeartbeats 4000000
set_option linter.unusedSimpArgs false
namespace Go.Proofs.YtofenmailjdehaaDoor
open Go.AF
theorem all_lkt {l : List Lk} {p : Lk → Bool} (h : ∀ j, j < l.length → p (lkt l j) = true) : l.all p = true := by
  rw [List.all_eq_true]
  intro x hx
  obtain ⟨j, hj, rfl⟩ := List.getElem_of_mem hx
  rw [lkt_get j hj]
  exact h j hj
theorem not_all {l : List Lk} {p : Lk → Bool} {j : Nat} (hj : j < l.length) (h : p (lkt l j) = false) : l.all p = false := by
  rw [List.all_eq_false]
  exact ⟨_, lkt_mem hj, by rw [h]; decide⟩
theorem truths_seq (c : Crt) (l : List Lk) (hc : crB c = true) (hl : ∀ x ∈ l, wrB c x = false) (hbl : l.length ≤ bigN) : ASeqZ Tryd.prog 3 68 (fun y => [y, .p (.ip (crC c) 0), .p (.ip [(.is (l.flatMap lookC) l.length)] 0)]) (truX c l) := by
  intro l0 inv fin hinv hfin hbd h0 hi0
  refine ACallsK.of_wf fun hw0 => ?_
  obtain ⟨b0, b1, b2, rfl⟩ := len3 (hinv 0 h0 hi0).1
  obtain ⟨⟨hR1, hR⟩, ⟨hC1, hC⟩, _⟩ := crB_of hc
  obtain ⟨C, hCn⟩ : ∃ n : Nat, c.cols = n := ⟨c.cols.toNat, by omega⟩
  have hCt : c.cols.toNat = C := by omega
  have hC8 : C ≤ 8 := by omega
  have hbl2 := hbl
  unfold bigN at hbl2
  refine ACallsK.of_body (N := 40) Tryd.func68 rfl rfl (Nat.le_of_ble_eq_true rfl) ?_
  refine AWp.seq ?_
  refine AWp.region ?_
  refine AList.c 3 rfl rfl rfl (OpJ.boxImm rfl rfl rfl) ?_
  refine AList.nil ?_
  refine AWp.seq ?_
  refine AWp.region ?_
  refine AList.c 9 rfl rfl rfl (OpJ.fieldAddr rfl rfl fd24_0 rfl) ?_
  refine AList.c 10 rfl rfl rfl (OpJ.load (v := .p (intsV c.rows)) rfl rfl ty22 rfl) ?_
  refine AList.c 11 rfl rfl rfl (OpJ.lenSlice rfl rfl sl22 rfl) ?_
  refine AList.c 12 rfl rfl rfl (OpJ.fieldAddr rfl rfl fd24_2 rfl) ?_
  refine AList.c 13 rfl rfl rfl (OpJ.load (v := .p (.int .i64 c.clamps)) rfl rfl ty3 rfl) ?_
  refine AList.c 14 rfl rfl rfl (OpJ.callP (xsets_ok c.rows.length c.clamps) rfl rfl rfl rfl rf69) ?_
  refine AList.nil ?_
  refine AWp.toEnd ?_
  refine AWp.block ?_
  refine AWp.to (T2 := [(1, _), (2, _), (3, _), (14, _)]) (H2 := [b0, b1, b2]) (To.sub (by repeat (first | exact Sub.nil | refine Sub.cons rfl ?_))) ?_
  refine AWp.rangeFunc 0 rfl (fun _ => rfl) rf77 (xsets_seq c.rows.length c.clamps hR) (Nat.le_refl _) (Nat.zero_le _) (fun _ h => by cases h) (fun x hx => by unfold setX at hx; simp at hx; obtain ⟨j, _, rfl⟩ := hx; rfl) rfl (fun k h => ∃ c0 c1 c2, h = [c0, c1, c2] ∧ inv (outO c l k) [c0, c1, c2] ∧ wfH Tryd.prog [c0, c1, c2]) (fun cd h => cd = .ret ∧ ∃ c0 c1 c2, h = [c0, c1, c2] ∧ fin [c0, c1, c2] ∧ wfH Tryd.prog [c0, c1, c2]) (fun _ _ h => by obtain ⟨_, _, _, rfl, _⟩ := h; rfl) (fun _ _ h => by obtain ⟨_, _, _, _, rfl, _⟩ := h; rfl) ⟨b0, b1, b2, rfl, hi0, hw0⟩ ?_ ?_ ?_
  · skip
    intro lx tmps k h x hJ hx
    obtain ⟨c0, c1, c2, rfl, hv, hw⟩ := hJ
    obtain ⟨a, ha, rfl⟩ := setX_get hx
    have ham := sets_mem.1 (List.mem_of_getElem? ha)
    have ha8 : a < 256 := Nat.lt_of_lt_of_le ham.1 (Nat.pow_le_pow_right (show 0 < 2 by omega) hR)
    refine AWp.region ?_
    refine AList.c 4 rfl rfl rfl (OpJ.allocOwn rfl zr118 rfl) ?_
    refine AList.c0 rfl rfl (OpJ.store rfl rfl rfl rfl rfl ty118 rfl rfl) ?_
    refine AList.nil ?_
    refine ⟨rfl, rfl, ?_⟩
    refine AWp.block ?_
    refine AWp.scope ?_
    refine AWp.seq ?_
    refine AWp.label ?_
    refine AWp.seq ?_
    refine AWp.region ?_
    refine AList.c 16 rfl rfl rfl (OpJ.fieldAddr rfl rfl fd24_1 rfl) ?_
    refine AList.c 17 rfl rfl rfl (OpJ.load (v := .p (.int .i64 c.cols)) rfl rfl ty3 rfl) ?_
    refine AList.c 18 rfl rfl rfl (OpJ.fieldAddr rfl rfl fd24_3 rfl) ?_
    refine AList.c 19 rfl rfl rfl (OpJ.load (v := .p (.int .i64 c.dies)) rfl rfl ty3 rfl) ?_
    rw [hCn]
    refine AList.c 20 rfl rfl rfl (OpJ.callP (xsets_ok C c.dies) rfl rfl rfl rfl rf69) ?_
    refine AList.nil ?_
    refine AWp.block ?_
    refine AWp.to (T2 := [(1, _), (2, _), (3, _), (4, _), (20, _)]) (H2 := [c0, c1, c2, .loop ⟨lx, tmps, _, _, _, _⟩ .busy none, .cells [.p (.int .i64 (a : Int))] 118]) (To.sub (by repeat (first | exact Sub.nil | refine Sub.cons rfl ?_))) ?_
    refine AWp.rangeFuncH 0 rfl (fun _ => rfl) rf77 (xsets_seq C c.dies hC8) (Nat.le_refl _) (Nat.zero_le _) (fun l0 h => ⟨3, _, _, _, Option.some.inj h, rfl⟩) (fun x hx => by unfold setX at hx; simp at hx; obtain ⟨j, _, rfl⟩ := hx; rfl) rfl (fun H k2 h => ∃ d0 d1 d2, h = [d0, d1, d2] ++ List.drop 3 H ∧ inv (outO c l k + inI c l a k2) [d0, d1, d2] ∧ wfH Tryd.prog [d0, d1, d2]) (fun H cd h => cd = .ret ∧ ∃ d0 d1 d2, h = [d0, d1, d2] ++ List.drop 3 H ∧ fin [d0, d1, d2] ∧ wfH Tryd.prog [d0, d1, d2]) (fun _ _ h => by obtain ⟨_, _, _, rfl, _⟩ := h; rfl) (fun _ _ h => by obtain ⟨_, _, _, _, rfl, _⟩ := h; rfl) ⟨c0, c1, c2, rfl, hv, hw⟩ ?_ ?_ ?_
    · skip
      intro lx2 tmps2 k2 h x hJ hx
      obtain ⟨d0, d1, d2, rfl, hv2, hw2⟩ := hJ
      obtain ⟨b, hb1, rfl⟩ := setX_get hx
      have hb2 : (setsL c.cols.toNat c.dies)[k2]? = some b := by rw [hCt]; exact hb1
      have hbm := sets_mem.1 (List.mem_of_getElem? hb1)
      have hb8 : b < 256 := Nat.lt_of_lt_of_le hbm.1 (Nat.pow_le_pow_right (show 0 < 2 by omega) hC8)
      refine AWp.region ?_
      refine AList.c 5 rfl rfl rfl (OpJ.assign rfl rfl) ?_
      refine AList.nil ?_
      refine ⟨rfl, rfl, ?_⟩
      refine AWp.block ?_
      refine AWp.seq ?_
      refine AWp.region ?_
      refine AList.c 22 rfl rfl rfl (OpJ.load (v := .p (.int .i64 (a : Int))) rfl rfl ty118 rfl) ?_
      refine AList.c 23 rfl rfl rfl (OpJ.move rfl rfl) ?_
      refine AList.c 24 rfl rfl rfl (OpJ.buildR (v := .p (.agg [.int .i64 (a : Int), .int .i64 (b : Int)])) rfl bd120 rfl rfl rfl) ?_
      refine AList.c 6 rfl rfl rfl (OpJ.allocOwn rfl zr120 rfl) ?_
      refine AList.c0 rfl rfl (OpJ.store rfl rfl rfl rfl rfl ty120 rfl rfl) ?_
      refine AList.nil ?_
      refine AWp.seq ?_
      refine AWp.seq ?_
      refine AWp.region ?_
      refine AList.c 25 rfl rfl rfl (OpJ.load (v := .p (.is (l.flatMap lookC) l.length)) rfl rfl ty111 rfl) ?_
      refine AList.c 26 rfl rfl rfl (OpJ.lenSlice rfl rfl sl111 rfl) ?_
      refine AList.c 27 rfl rfl rfl (OpJ.move rfl rfl) ?_
      refine AList.nil ?_
      refine AWp.block ?_
      refine AWp.loopKL [1, 2, 3, 4, 5, 6, 14, 15, 16, 17, 18, 19, 20, 21, 22, 23, 24, 25, 26, 36, 37, 38, 39] (fun g => [(27, .p (.int .i64 ((g : Nat) : Int)))]) (fun g => g ≤ l.length ∧ ∀ j, j < g → fitB a b (lkt l j) = true) (fun g => l.length - g) 0 ⟨Nat.zero_le _, fun j hj => absurd hj (by omega)⟩ (Sub.cons rfl (Sub.nil)) (fun i hg => ?_)
      obtain ⟨hg1, hg2⟩ := hg
      refine AWp.seq ?_
      refine AWp.region ?_
      refine AList.c 28 rfl rfl rfl (OpJ.lss rfl rfl rfl) ?_
      refine AList.nil ?_
      refine AWp.seq ?_
      refine AWp.cond _ rfl (fun hc0 => ?_) (fun hc0 => ?_)
      · skip
        have hk0 : i < l.length := by have h := of_decide_eq_true hc0; omega
        have hv4 := wrB_of (hl _ (lkt_mem hk0))
        refine AWp.skip ?_
        refine AWp.seq ?_
        refine AWp.block ?_
        refine AWp.seq ?_
        refine AWp.region ?_
        refine AList.c 29 rfl rfl rfl (OpJ.indexG (g := lkt l) lkt_get rfl rfl rfl sl111 el111 rfl (fun _ => rfl) (by decide) hk0) ?_
        refine AList.c 30 rfl rfl rfl (OpJ.load (v := .p (lookV (lkt l i))) rfl rfl ty113 rfl) ?_
        refine AList.c 8 rfl rfl rfl (OpJ.assign rfl rfl) ?_
        refine AList.nil ?_
        refine AWp.seq ?_
        refine AWp.region ?_
        refine AList.c 31 rfl rfl rfl (OpJ.move rfl rfl) ?_
        refine AList.c 32 rfl rfl rfl (OpJ.load (v := .p (.agg [.int .i64 (a : Int), .int .i64 (b : Int)])) rfl rfl ty120 rfl) ?_
        refine AList.c 33 rfl rfl rfl (OpJ.invoke (fits_F (lkt l i) a b hv4.1.1 hv4.2.1.1 ha8 hb8) rfl rfl rfl) ?_
        refine AList.c 34 rfl rfl rfl (OpJ.not_ rfl rfl) ?_
        refine AList.nil ?_
        refine AWp.cond _ rfl (fun hc1 => ?_) (fun hc1 => ?_)
        · skip
          have hfit : l.all (fitB a b) = false := not_all hk0 (by simpa using hc1)
          have hN : inv (outO c l k + inI c l a (k2 + 1)) [d0, d1, d2] := by rw [in_F hb2 hfit]; exact hv2
          have hW := hw2
          refine AWp.exit ?_
          exact ⟨_, ⟨d0, d1, d2, rfl, hN, hW⟩, To.pop (H := [d0, d1, d2, _, _, _]) (ext := [_]) (wfH.append (h := [d0, d1, d2]) (ext := [_, _, _]) hW rfl)⟩
        · skip
          have hfi : fitB a b (lkt l i) = true := by simpa using hc1
          refine AWp.skip ?_
          refine AWp.region ?_
          refine AList.c 35 rfl rfl rfl (OpJ.add rfl rfl rfl (i64ok ?_)) ?_
          · omega
          refine AList.c 27 rfl rfl rfl (OpJ.move rfl rfl) ?_
          refine AList.nil ?_
          refine ⟨i + 1, ?_, ?_, ?_⟩
          · refine ⟨by omega, fun j hj => ?_⟩
            rcases Nat.lt_succ_iff_lt_or_eq.1 hj with h1 | rfl
            · exact hg2 j h1
            · exact hfi
          · omega
          exact To.sub (Sub.cons rfl (by repeat (first | exact Sub.nil | refine Sub.cons rfl ?_)))
      · skip
        obtain rfl : i = l.length := by have h := of_decide_eq_false hc0; omega
        have hfit : l.all (fitB a b) = true := all_lkt hg2
        refine AWp.exit ?_
        refine AWp.seq ?_
        refine AWp.region ?_
        refine AList.c 36 rfl rfl rfl (OpJ.load rfl rfl ty152 rfl) ?_
        refine AList.c 37 rfl rfl rfl (OpJ.load (v := .p (.agg [.int .i64 (a : Int), .int .i64 (b : Int)])) rfl rfl ty120 rfl) ?_
        refine AList.yield 38 rfl rfl rfl rfl rfl rfl (BodyOk.frame (h := [d0, d1, d2]) (ext := [_, _, _, _]) (hbd _ _ _ hv2 (tru_at ha hb2 hfit)) hw2 (hinv _ _ hv2).2 rfl rfl (fun b h q => by cases b; { exact (hfin h (by simpa using q)).1 }; { exact (hinv _ h (by simpa using q)).1 })) ?_
        intro y2 h2 hq2
        obtain ⟨h3, hq3, hw3, rfl⟩ := hq2
        obtain ⟨d0, d1, d2, rfl⟩ := len3 (show h3.length = 3 from by cases y2; { exact (hfin _ (by simpa using hq3)).1 }; { exact (hinv _ _ (by simpa using hq3)).1 })
        refine AList.c 39 rfl rfl rfl (OpJ.not_ rfl rfl) ?_
        refine AList.nil ?_
        refine AWp.cond _ rfl (fun hc2 => ?_) (fun hc2 => ?_)
        · skip
          have hy : y2 = false := by simpa using hc2
          rw [if_neg (by rw [hy]; decide)] at hq3
          refine AWp.ret ?_
          exact ⟨_, ⟨rfl, d0, d1, d2, rfl, hq3, hw3⟩, To.pop (H := [d0, d1, d2, _, _, _]) (ext := [_]) (wfH.append (h := [d0, d1, d2]) (ext := [_, _, _]) hw3 rfl)⟩
        · skip
          have hy : y2 = true := by simpa using hc2
          rw [if_pos hy] at hq3
          have hN : inv (outO c l k + inI c l a (k2 + 1)) [d0, d1, d2] := by rw [in_T hb2 hfit]; exact hq3
          have hW := hw3
          refine AWp.skip ?_
          exact ⟨_, ⟨d0, d1, d2, rfl, hN, hW⟩, To.pop (H := [d0, d1, d2, _, _, _]) (ext := [_]) (wfH.append (h := [d0, d1, d2]) (ext := [_, _, _]) hW rfl)⟩
    · skip
      intro h hJ
      obtain ⟨d0, d1, d2, rfl, hv2, hw2⟩ := hJ
      have hv3 : inv (outO c l (k + 1)) [d0, d1, d2] := by rw [out_S ha, hCt]; exact hv2
      exact ⟨[d0, d1, d2], ⟨d0, d1, d2, rfl, hv3, hw2⟩, To.pop (H := [d0, d1, d2, _]) (ext := [_, _]) (wfH.append (h := [d0, d1, d2]) (ext := [_]) hw2 rfl)⟩
    · skip
      intro cd h hx
      obtain ⟨rfl, d0, d1, d2, rfl, hf, hw2⟩ := hx
      refine AWp.ret ?_
      exact ⟨[d0, d1, d2], ⟨rfl, d0, d1, d2, rfl, hf, hw2⟩, To.pop (H := [d0, d1, d2, _]) (ext := [_, _]) (wfH.append (h := [d0, d1, d2]) (ext := [_]) hw2 rfl)⟩
  · skip
    intro h hJ
    obtain ⟨c0, c1, c2, rfl, hv, hw⟩ := hJ
    exact ⟨[], _, To.pop (H := [c0, c1, c2]) (ext := [_]) hw, .inl rfl, _, resV.none_ rfl, .inl (by rw [← out_all]; exact hv)⟩
  · skip
    intro cd h hx
    obtain ⟨rfl, c0, c1, c2, rfl, hf, hw⟩ := hx
    refine AWp.to (T2 := []) (H2 := [c0, c1, c2]) (To.pop (H := [c0, c1, c2]) (ext := [_]) hw) ?_
    refine AWp.ret ?_
    exact ⟨.inr rfl, _, resV.none_ rfl, .inr hf⟩
end Go.Proofs.YtofenmailjdehaaDoor
