/-
  The law SackTrue.
-/
import Derived.Test.YtmcejcidbekpkaaSkFactsC
import Derived.Test.YtmcejcidbekpkaaSk20
import Derived.Test.YtmcejcidbekpkaaSk2
import Derived.Test.YtmcejcidbekpkaaSk1
set_option linter.unusedVariables false
set_option maxRecDepth 100000
set_option maxHeartbeats 4000000
set_option linter.unusedSimpArgs false
namespace Go.Proofs.Ytmcejcidbekpkaa
open Go.AF
theorem truth_ex (l : List Sk) (b : List Tk) (ys : List Int) (hl : okL l) (hb : okB b) (hy : okY ys) (hyl : ys.length ≤ 9223372036854775807) : ∃ xs ms, Truth l b xs ms ∧ Pure Try.prog 21 [sacksV l, takesV b, .is (ys.flatMap y1) ys.length] (.tuple [.is (xs.flatMap Cn.cells) l.length, .is (ms.flatMap m1) b.length]) :=
  ⟨_, _, truth_is hl hb hy, truth_ok l b ys hl hb hy hyl⟩
theorem one_of {l : List Sk} {b : List Tk} (hv : validB l b = true) : 0 < b.length ∧ ∀ t, t < b.length → 1 ≤ (bAt b t).m.lo := by
  unfold validB isBatchB at hv
  simp only [Bool.and_eq_true, decide_eq_true_eq, Bool.not_eq_true', List.any_eq_false] at hv
  refine ⟨by omega, fun t ht => ?_⟩
  rw [bAt_get ht]
  have := hv.2.2 b[t] (List.getElem_mem _)
  simp [Tk.bad, Sp.ok] at this
  omega
theorem wLH_B {l : List Sk} {b : List Tk} (hl : okL l) (hb : okB b) (hv : validB l b = true) (k : Int) : (0 ≤ wL l b k ∧ wL l b k ≤ 100000000) ∧ (0 ≤ wH l b k ∧ wH l b k ≤ 100000000) := by
  have h := partS hl hb k
  unfold wL wH
  rw [if_pos hv, if_pos hv]
  omega
theorem wa_bad {l : List Sk} {b : List Tk} {w : Sp} (hv : validB l b = true) (h : ¬ waE l b w = 0) : waL l b w = 0 ∧ waH l b w = 0 ∧ (waE l b w = 2 ∨ waE l b w = 4) := by
  refine ⟨by simp [waL, h], by simp [waH, h], ?_⟩
  unfold waE at h ⊢
  rw [if_pos hv] at h ⊢
  split
  · rename_i h2
    rw [if_pos h2] at h
    split
    · exact .inr rfl
    · rename_i h3; rw [if_neg h3] at h; exact absurd rfl h
  · exact .inl rfl
theorem wa_good {l : List Sk} {b : List Tk} {w : Sp} (h : waE l b w = 0) : (0 ≤ w.lo ∧ w.lo ≤ w.hi ∧ w.hi ≤ 999) ∧ (0 ≤ waL l b w ∧ waL l b w ≤ waH l b w ∧ waH l b w ≤ 1073741824) := by
  have hv : w.ok 0 999 = true ∧ ¬ waterHi l b w < waterLo l b w := by
    unfold waE at h
    split at h
    · split at h
      · rename_i h1
        split at h
        · omega
        · exact ⟨h1, by assumption⟩
      · omega
    · omega
  refine ⟨by have := hv.1; simp [Sp.ok] at this; omega, ?_⟩
  unfold waL waH
  rw [if_pos h, if_pos h]
  have h2 := hv.2
  unfold waterLo waterHi at h2 ⊢
  omega
theorem SackTrue_ok (l : List Sk) (b : List Tk) (w : Sp) (ys : List Int) (hl : l.length ≤ bigN) (hb : b.length ≤ bigN) (hys : ∀ y ∈ ys, 0 ≤ y ∧ y ≤ 4294967295) (hyl : ys.length ≤ 9223372036854775807) : Pure Try.prog 5 [sacksV l, takesV b, .agg [.int .i64 w.lo, .int .i64 w.hi], .is (ys.flatMap y1) ys.length] (.bool true) := by
  refine Pure.start (N := 256) Try.func5 rfl rfl (Nat.le_of_ble_eq_true rfl) ?_
  refine AWp.seq ?_
  refine AWp.region ?_
  refine AList.c 6 rfl rfl rfl (OpJ.boxImm rfl rfl rfl) ?_
  refine AList.c 8 rfl rfl rfl (OpJ.assign rfl rfl) ?_
  refine AList.nil ?_
  refine AWp.seq ?_
  refine AWp.seq ?_
  refine AWp.region ?_
  refine AList.c 24 rfl rfl rfl (OpJ.move rfl rfl) ?_
  refine AList.c 25 rfl rfl rfl (OpJ.move rfl rfl) ?_
  refine AList.c 26 rfl rfl rfl (OpJ.callP (large_ok l b) rfl rfl rfl rfl rf9) ?_
  refine AList.c 27 rfl rfl rfl (OpJ.move rfl rfl) ?_
  refine AList.g 28 27 rfl rfl rfl rfl rfl rfl rfl [(3, _)] (fun h => And.intro (.inl rfl) (trivial)) (fun h => (OpJ.move rfl rfl)) ?_
  refine AList.g 29 27 rfl rfl rfl rfl rfl rfl rfl [(28, _)] (fun h => And.intro (.inr ⟨_, rfl, h⟩) (trivial)) (fun h => (OpJ.lenSlice rfl rfl sl39 rfl)) ?_
  refine AList.g 30 27 rfl rfl rfl rfl rfl rfl rfl [(29, _)] (fun h => And.intro (.inr ⟨_, rfl, h⟩) (trivial)) (fun h => (OpJ.eql rfl rfl rfl)) ?_
  refine AList.c 31 rfl rfl rfl (OpJ.or_ rfl rfl rfl ?_) ?_
  · first | (intro h; rw [h]; rfl) | (intro h; simp_all)
  refine AList.c 32 rfl rfl rfl (OpJ.move rfl rfl) ?_
  refine AList.g 33 32 rfl rfl rfl rfl rfl rfl rfl [(0, _)] (fun h => And.intro (.inl rfl) (trivial)) (fun h => (OpJ.move rfl rfl)) ?_
  refine AList.g 34 32 rfl rfl rfl rfl rfl rfl rfl [(33, _)] (fun h => And.intro (.inr ⟨_, rfl, h⟩) (trivial)) (fun h => (OpJ.callP (rSacks_ok l hl) rfl rfl rfl rfl rf19)) ?_
  refine AList.g 35 32 rfl rfl rfl rfl rfl rfl rfl [(34, _)] (fun h => And.intro (.inr ⟨_, rfl, h⟩) (trivial)) (fun h => (OpJ.not_ rfl rfl)) ?_
  refine AList.c 36 rfl rfl rfl (OpJ.or_ rfl rfl rfl ?_) ?_
  · first | (intro h; rw [h]; rfl) | (intro h; simp_all)
  refine AList.c 37 rfl rfl rfl (OpJ.move rfl rfl) ?_
  refine AList.g 38 37 rfl rfl rfl rfl rfl rfl rfl [(0, _)] (fun h => And.intro (.inl rfl) (trivial)) (fun h => (OpJ.move rfl rfl)) ?_
  refine AList.g 39 37 rfl rfl rfl rfl rfl rfl rfl [(1, _)] (fun h => And.intro (.inl rfl) (trivial)) (fun h => (OpJ.move rfl rfl)) ?_
  refine AList.g 40 37 rfl rfl rfl rfl rfl rfl rfl [(38, _), (39, _)] (fun h => And.intro (.inr ⟨_, rfl, h⟩) (And.intro (.inr ⟨_, rfl, h⟩) (trivial))) (fun h => (OpJ.callP (rBatch_ok l b hl hb) rfl rfl rfl rfl rf20)) ?_
  refine AList.g 41 37 rfl rfl rfl rfl rfl rfl rfl [(40, _)] (fun h => And.intro (.inr ⟨_, rfl, h⟩) (trivial)) (fun h => (OpJ.not_ rfl rfl)) ?_
  refine AList.c 42 rfl rfl rfl (OpJ.or_ rfl rfl rfl ?_) ?_
  · first | (intro h; rw [h]; rfl) | (intro h; simp_all)
  refine AList.nil ?_
  refine AWp.cond _ rfl (fun hc0 => ?_) (fun hc0 => ?_)
  · skip
    refine AWp.seq ?_
    refine AWp.region ?_
    refine AList.c 43 rfl rfl rfl (OpJ.callP (awake_ok) rfl rfl rfl rfl rf10) ?_
    refine AList.c 8 rfl rfl rfl (OpJ.assign rfl rfl) ?_
    refine AList.nil ?_
    refine AWp.ret ?_
    refine Fin.oneE rfl rfl ?_
    rfl
  · skip
    have hv : validB l b = true := by unfold validB; simp at hc0; simp [hc0]
    have okl : okL l := okL_of (by unfold validB at hv; simp at hv; exact hv.1)
    have okb := okB_of (n := l.length) (b := b) (by unfold validB at hv; simp at hv; exact hv.2)
    have hy : okY ys := ⟨List.length_pos_iff.2 (by rintro rfl; simp at hc0), hys⟩
    have hok : okE l b = 0 := by simp [okE, hv]
    have hsc := sc_B okl okb.1
    have hsL : shL l b = scLo l b 1001 := by simp [shL, hv]
    have hsH : shH l b = scHi l b 1001 := by simp [shH, hv]
    have hb8 := okb.1.1
    refine AWp.skip ?_
    refine AWp.seq ?_
    refine AWp.region ?_
    refine AList.c 45 rfl rfl rfl (OpJ.move rfl rfl) ?_
    refine AList.c 46 rfl rfl rfl (OpJ.move rfl rfl) ?_
    refine AList.c 47 rfl rfl rfl (OpJ.callP (weigh_n l b hl hb) rfl rfl rfl rfl rf11) ?_
    refine AList.c 44 rfl rfl rfl (OpJ.move rfl rfl) ?_
    refine AList.c 48 rfl rfl rfl (OpJ.extract rfl rfl rfl) ?_
    refine AList.c 49 rfl rfl rfl (OpJ.extract rfl rfl rfl) ?_
    refine AList.c 9 rfl rfl rfl (OpJ.allocOwn rfl zr29 rfl) ?_
    refine AList.c0 rfl rfl (OpJ.store rfl rfl rfl rfl rfl ty29 rfl rfl) ?_
    refine AList.c 10 rfl rfl rfl (OpJ.assign rfl rfl) ?_
    refine AList.nil ?_
    refine AWp.seq ?_
    refine AWp.region ?_
    refine AList.c 51 rfl rfl rfl (OpJ.move rfl rfl) ?_
    refine AList.c 52 rfl rfl rfl (OpJ.move rfl rfl) ?_
    refine AList.c 53 rfl rfl rfl (OpJ.callP (share_n l b hl hb) rfl rfl rfl rfl rf13) ?_
    refine AList.c 50 rfl rfl rfl (OpJ.move rfl rfl) ?_
    refine AList.c 54 rfl rfl rfl (OpJ.extract rfl rfl rfl) ?_
    refine AList.c 55 rfl rfl rfl (OpJ.extract rfl rfl rfl) ?_
    refine AList.c 11 rfl rfl rfl (OpJ.allocOwn rfl zr25 rfl) ?_
    refine AList.c0 rfl rfl (OpJ.store rfl rfl rfl rfl rfl ty25 rfl rfl) ?_
    refine AList.c 12 rfl rfl rfl (OpJ.assign rfl rfl) ?_
    refine AList.nil ?_
    refine AWp.seq ?_
    refine AWp.seq ?_
    refine AWp.region ?_
    refine AList.c 56 rfl rfl rfl (OpJ.move rfl rfl) ?_
    refine AList.c 57 rfl rfl rfl (OpJ.neq rfl rfl rfl) ?_
    refine AList.c 58 rfl rfl rfl (OpJ.move rfl rfl) ?_
    refine AList.g 59 58 rfl rfl rfl rfl rfl rfl rfl [(12, _)] (fun h => And.intro (.inl rfl) (trivial)) (fun h => (OpJ.move rfl rfl)) ?_
    refine AList.g 60 58 rfl rfl rfl rfl rfl rfl rfl [(59, _)] (fun h => And.intro (.inr ⟨_, rfl, h⟩) (trivial)) (fun h => (OpJ.neq rfl rfl rfl)) ?_
    refine AList.c 61 rfl rfl rfl (OpJ.or_ rfl rfl rfl ?_) ?_
    · first | (intro h; rw [h]; rfl) | (intro h; simp_all)
    refine AList.c 62 rfl rfl rfl (OpJ.move rfl rfl) ?_
    refine AList.g 63 62 rfl rfl rfl rfl rfl rfl rfl [(11, _)] (fun h => And.intro (.inl rfl) (trivial)) (fun h => (OpJ.fieldAddr rfl rfl fd25_0 rfl)) ?_
    refine AList.g 64 62 rfl rfl rfl rfl rfl rfl rfl [(63, _)] (fun h => And.intro (.inr ⟨_, rfl, h⟩) (trivial)) (fun h => (OpJ.load rfl rfl ty3 rfl)) ?_
    refine AList.g 65 62 rfl rfl rfl rfl rfl rfl rfl [(64, _)] (fun h => And.intro (.inr ⟨_, rfl, h⟩) (trivial)) (fun h => (OpJ.lss rfl rfl rfl)) ?_
    refine AList.c 66 rfl rfl rfl (OpJ.or_ rfl rfl rfl ?_) ?_
    · first | (intro h; rw [h]; rfl) | (intro h; simp_all)
    refine AList.c 67 rfl rfl rfl (OpJ.move rfl rfl) ?_
    refine AList.g 68 67 rfl rfl rfl rfl rfl rfl rfl [(11, _)] (fun h => And.intro (.inl rfl) (trivial)) (fun h => (OpJ.fieldAddr rfl rfl fd25_1 rfl)) ?_
    refine AList.g 69 67 rfl rfl rfl rfl rfl rfl rfl [(68, _)] (fun h => And.intro (.inr ⟨_, rfl, h⟩) (trivial)) (fun h => (OpJ.load rfl rfl ty3 rfl)) ?_
    refine AList.g 70 67 rfl rfl rfl rfl rfl rfl rfl [(69, _)] (fun h => And.intro (.inr ⟨_, rfl, h⟩) (trivial)) (fun h => (OpJ.gtr rfl rfl rfl)) ?_
    refine AList.c 71 rfl rfl rfl (OpJ.or_ rfl rfl rfl ?_) ?_
    · first | (intro h; rw [h]; rfl) | (intro h; simp_all)
    refine AList.nil ?_
    refine AWp.cond _ rfl (fun hc1 => ?_) (fun hc1 => ?_)
    · skip
      exfalso
      rw [hok, hsL, hsH] at hc1
      simp at hc1
      omega
    · skip
      obtain ⟨xs, ms, T, hT⟩ := truth_ex l b ys okl okb.1 hy hyl
      have B0 := allS_B okl okb.1 okb.2 T 0 b.length (Nat.le_refl _)
      have B1 := allS_B okl okb.1 okb.2 T 1 b.length (Nat.le_refl _)
      have B2 := allS_B okl okb.1 okb.2 T 2 b.length (Nat.le_refl _)
      have B3 := allS_B okl okb.1 okb.2 T 3 b.length (Nat.le_refl _)
      have B4 := allS_B okl okb.1 okb.2 T 4 b.length (Nat.le_refl _)
      have sBB := sumM_B okb.1 T b.length (Nat.le_refl _)
      have f1 := F1 (b := b) (xs := xs) (ms := ms)
      have f2 := F2 (b := b) (xs := xs) (ms := ms)
      have hbn : 0 < b.length ∧ ∀ t, t < b.length → 1 ≤ (bAt b t).m.lo := one_of hv
      have f3 := F3 okl okb.1 okb.2 T hbn.1 hbn.2
      have f5 := F5 okl okb.1 okb.2 T hv
      have i0 := F4 okl okb.1 okb.2 T hv 0
      have i1 := F4 okl okb.1 okb.2 T hv 1
      have i2 := F4 okl okb.1 okb.2 T hv 2
      have i3 := F4 okl okb.1 okb.2 T hv 3
      have i4 := F4 okl okb.1 okb.2 T hv 4
      have w0 := wLH_B okl okb.1 hv 0
      have w1 := wLH_B okl okb.1 hv 1
      have w2 := wLH_B okl okb.1 hv 2
      have w3 := wLH_B okl okb.1 hv 3
      have w4 := wLH_B okl okb.1 hv 4
      have pa := mulB (a := shL l b) (A := 1000) (B := 1600000000000000) (by omega) B4
      have pb := mulB (a := shH l b) (A := 1000) (B := 1600000000000000) (by omega) B4
      refine AWp.skip ?_
      refine AWp.seq ?_
      refine AWp.region ?_
      refine AList.c 73 rfl rfl rfl (OpJ.move rfl rfl) ?_
      refine AList.c 74 rfl rfl rfl (OpJ.move rfl rfl) ?_
      refine AList.c 75 rfl rfl rfl (OpJ.move rfl rfl) ?_
      refine AList.c 76 rfl rfl rfl (OpJ.callP (hT) rfl rfl rfl rfl rf21) ?_
      refine AList.c 72 rfl rfl rfl (OpJ.move rfl rfl) ?_
      refine AList.c 77 rfl rfl rfl (OpJ.extract rfl rfl rfl) ?_
      refine AList.c 78 rfl rfl rfl (OpJ.extract rfl rfl rfl) ?_
      refine AList.c 13 rfl rfl rfl (OpJ.assign rfl rfl) ?_
      refine AList.c 14 rfl rfl rfl (OpJ.assign rfl rfl) ?_
      refine AList.nil ?_
      refine AWp.seq ?_
      refine AWp.region ?_
      refine AList.c 15 rfl rfl rfl (OpJ.allocOwn rfl zr45 rfl) ?_
      refine AList.nil ?_
      refine AWp.seq ?_
      refine AWp.seq ?_
      refine AWp.region ?_
      refine AList.c 16 rfl rfl rfl (OpJ.assign rfl rfl) ?_
      refine AList.nil ?_
      refine AWp.block ?_
      refine AWp.unroll 6 ?_
      refine ARounds.next ?_
      refine AWp.seq ?_
      refine AWp.seq ?_
      refine AWp.region ?_
      refine AList.c 79 rfl rfl rfl (OpJ.move rfl rfl) ?_
      refine AList.c 80 rfl rfl rfl (OpJ.lss rfl rfl rfl) ?_
      refine AList.nil ?_
      refine AWp.condT rfl ?_
      refine AWp.skip ?_
      refine AWp.seq ?_
      refine AWp.block ?_
      refine AWp.region ?_
      refine AList.c 83 rfl rfl rfl (OpJ.move rfl rfl) ?_
      refine AList.c 84 rfl rfl rfl (OpJ.move rfl rfl) ?_
      refine AList.c 85 rfl rfl rfl (OpJ.move rfl rfl) ?_
      refine AList.c 86 rfl rfl rfl (OpJ.move rfl rfl) ?_
      refine AList.c 87 rfl rfl rfl (OpJ.move rfl rfl) ?_
      refine AList.c 88 rfl rfl rfl (OpJ.callP (all_ok l b xs ms 0 (by decide) okl okb.1 okb.2 T) rfl rfl rfl rfl rf22) ?_
      refine AList.c 89 rfl rfl rfl (OpJ.indexArr rfl rfl rfl ar45 el45 (by omega) (by omega) rfl) ?_
      refine AList.c0 rfl rfl (OpJ.store rfl rfl rfl rfl rfl ty3 rfl rfl) ?_
      refine AList.nil ?_
      refine AWp.region ?_
      refine AList.c 81 rfl rfl rfl (OpJ.move rfl rfl) ?_
      refine AList.c 82 rfl rfl rfl (OpJ.add rfl rfl rfl (i64ok ?_)) ?_
      · decide
      refine AList.c 16 rfl rfl rfl (OpJ.assign rfl rfl) ?_
      refine AList.nil ?_
      refine ARounds.next ?_
      refine AWp.norm [0, 1, 2] [(16, .p (.int .i64 1)), (15, .ptr 2 0), (14, .p (.is (ms.flatMap m1) b.length)), (13, .p (.is (xs.flatMap Cn.cells) l.length)), (11, .ptr 1 0), (9, .ptr 0 0), (6, .p (.ip [.int .i64 w.lo, .int .i64 w.hi] 0)), (3, .p (.is (ys.flatMap y1) ys.length)), (1, .p (takesV b)), (0, .p (sacksV l))] [.cells [.p (.int .i64 (wL l b 0)), .p (.int .i64 (wH l b 0)), .p (.int .i64 (wL l b 1)), .p (.int .i64 (wH l b 1)), .p (.int .i64 (wL l b 2)), .p (.int .i64 (wH l b 2)), .p (.int .i64 (wL l b 3)), .p (.int .i64 (wH l b 3)), .p (.int .i64 (wL l b 4)), .p (.int .i64 (wH l b 4))] 29, .cells [.p (.int .i64 (shL l b)), .p (.int .i64 (shH l b))] 25, .cells [.p (.int .i64 (allS (ofF 0) b xs ms b.length)), .p (.int .i64 0), .p (.int .i64 0), .p (.int .i64 0), .p (.int .i64 0)] 45] rfl (by repeat (first | exact Sub.nil | refine Sub.cons rfl ?_)) rfl ?_
      refine AWp.seq ?_
      refine AWp.seq ?_
      refine AWp.region ?_
      refine AList.c 79 rfl rfl rfl (OpJ.move rfl rfl) ?_
      refine AList.c 80 rfl rfl rfl (OpJ.lss rfl rfl rfl) ?_
      refine AList.nil ?_
      refine AWp.condT rfl ?_
      refine AWp.skip ?_
      refine AWp.seq ?_
      refine AWp.block ?_
      refine AWp.region ?_
      refine AList.c 83 rfl rfl rfl (OpJ.move rfl rfl) ?_
      refine AList.c 84 rfl rfl rfl (OpJ.move rfl rfl) ?_
      refine AList.c 85 rfl rfl rfl (OpJ.move rfl rfl) ?_
      refine AList.c 86 rfl rfl rfl (OpJ.move rfl rfl) ?_
      refine AList.c 87 rfl rfl rfl (OpJ.move rfl rfl) ?_
      refine AList.c 88 rfl rfl rfl (OpJ.callP (all_ok l b xs ms 1 (by decide) okl okb.1 okb.2 T) rfl rfl rfl rfl rf22) ?_
      refine AList.c 89 rfl rfl rfl (OpJ.indexArr rfl rfl rfl ar45 el45 (by omega) (by omega) rfl) ?_
      refine AList.c0 rfl rfl (OpJ.store rfl rfl rfl rfl rfl ty3 rfl rfl) ?_
      refine AList.nil ?_
      refine AWp.region ?_
      refine AList.c 81 rfl rfl rfl (OpJ.move rfl rfl) ?_
      refine AList.c 82 rfl rfl rfl (OpJ.add rfl rfl rfl (i64ok ?_)) ?_
      · decide
      refine AList.c 16 rfl rfl rfl (OpJ.assign rfl rfl) ?_
      refine AList.nil ?_
      refine ARounds.next ?_
      refine AWp.norm [0, 1, 2] [(16, .p (.int .i64 2)), (15, .ptr 2 0), (14, .p (.is (ms.flatMap m1) b.length)), (13, .p (.is (xs.flatMap Cn.cells) l.length)), (11, .ptr 1 0), (9, .ptr 0 0), (6, .p (.ip [.int .i64 w.lo, .int .i64 w.hi] 0)), (3, .p (.is (ys.flatMap y1) ys.length)), (1, .p (takesV b)), (0, .p (sacksV l))] [.cells [.p (.int .i64 (wL l b 0)), .p (.int .i64 (wH l b 0)), .p (.int .i64 (wL l b 1)), .p (.int .i64 (wH l b 1)), .p (.int .i64 (wL l b 2)), .p (.int .i64 (wH l b 2)), .p (.int .i64 (wL l b 3)), .p (.int .i64 (wH l b 3)), .p (.int .i64 (wL l b 4)), .p (.int .i64 (wH l b 4))] 29, .cells [.p (.int .i64 (shL l b)), .p (.int .i64 (shH l b))] 25, .cells [.p (.int .i64 (allS (ofF 0) b xs ms b.length)), .p (.int .i64 (allS (ofF 1) b xs ms b.length)), .p (.int .i64 0), .p (.int .i64 0), .p (.int .i64 0)] 45] rfl (by repeat (first | exact Sub.nil | refine Sub.cons rfl ?_)) rfl ?_
      refine AWp.seq ?_
      refine AWp.seq ?_
      refine AWp.region ?_
      refine AList.c 79 rfl rfl rfl (OpJ.move rfl rfl) ?_
      refine AList.c 80 rfl rfl rfl (OpJ.lss rfl rfl rfl) ?_
      refine AList.nil ?_
      refine AWp.condT rfl ?_
      refine AWp.skip ?_
      refine AWp.seq ?_
      refine AWp.block ?_
      refine AWp.region ?_
      refine AList.c 83 rfl rfl rfl (OpJ.move rfl rfl) ?_
      refine AList.c 84 rfl rfl rfl (OpJ.move rfl rfl) ?_
      refine AList.c 85 rfl rfl rfl (OpJ.move rfl rfl) ?_
      refine AList.c 86 rfl rfl rfl (OpJ.move rfl rfl) ?_
      refine AList.c 87 rfl rfl rfl (OpJ.move rfl rfl) ?_
      refine AList.c 88 rfl rfl rfl (OpJ.callP (all_ok l b xs ms 2 (by decide) okl okb.1 okb.2 T) rfl rfl rfl rfl rf22) ?_
      refine AList.c 89 rfl rfl rfl (OpJ.indexArr rfl rfl rfl ar45 el45 (by omega) (by omega) rfl) ?_
      refine AList.c0 rfl rfl (OpJ.store rfl rfl rfl rfl rfl ty3 rfl rfl) ?_
      refine AList.nil ?_
      refine AWp.region ?_
      refine AList.c 81 rfl rfl rfl (OpJ.move rfl rfl) ?_
      refine AList.c 82 rfl rfl rfl (OpJ.add rfl rfl rfl (i64ok ?_)) ?_
      · decide
      refine AList.c 16 rfl rfl rfl (OpJ.assign rfl rfl) ?_
      refine AList.nil ?_
      refine ARounds.next ?_
      refine AWp.norm [0, 1, 2] [(16, .p (.int .i64 3)), (15, .ptr 2 0), (14, .p (.is (ms.flatMap m1) b.length)), (13, .p (.is (xs.flatMap Cn.cells) l.length)), (11, .ptr 1 0), (9, .ptr 0 0), (6, .p (.ip [.int .i64 w.lo, .int .i64 w.hi] 0)), (3, .p (.is (ys.flatMap y1) ys.length)), (1, .p (takesV b)), (0, .p (sacksV l))] [.cells [.p (.int .i64 (wL l b 0)), .p (.int .i64 (wH l b 0)), .p (.int .i64 (wL l b 1)), .p (.int .i64 (wH l b 1)), .p (.int .i64 (wL l b 2)), .p (.int .i64 (wH l b 2)), .p (.int .i64 (wL l b 3)), .p (.int .i64 (wH l b 3)), .p (.int .i64 (wL l b 4)), .p (.int .i64 (wH l b 4))] 29, .cells [.p (.int .i64 (shL l b)), .p (.int .i64 (shH l b))] 25, .cells [.p (.int .i64 (allS (ofF 0) b xs ms b.length)), .p (.int .i64 (allS (ofF 1) b xs ms b.length)), .p (.int .i64 (allS (ofF 2) b xs ms b.length)), .p (.int .i64 0), .p (.int .i64 0)] 45] rfl (by repeat (first | exact Sub.nil | refine Sub.cons rfl ?_)) rfl ?_
      refine AWp.seq ?_
      refine AWp.seq ?_
      refine AWp.region ?_
      refine AList.c 79 rfl rfl rfl (OpJ.move rfl rfl) ?_
      refine AList.c 80 rfl rfl rfl (OpJ.lss rfl rfl rfl) ?_
      refine AList.nil ?_
      refine AWp.condT rfl ?_
      refine AWp.skip ?_
      refine AWp.seq ?_
      refine AWp.block ?_
      refine AWp.region ?_
      refine AList.c 83 rfl rfl rfl (OpJ.move rfl rfl) ?_
      refine AList.c 84 rfl rfl rfl (OpJ.move rfl rfl) ?_
      refine AList.c 85 rfl rfl rfl (OpJ.move rfl rfl) ?_
      refine AList.c 86 rfl rfl rfl (OpJ.move rfl rfl) ?_
      refine AList.c 87 rfl rfl rfl (OpJ.move rfl rfl) ?_
      refine AList.c 88 rfl rfl rfl (OpJ.callP (all_ok l b xs ms 3 (by decide) okl okb.1 okb.2 T) rfl rfl rfl rfl rf22) ?_
      refine AList.c 89 rfl rfl rfl (OpJ.indexArr rfl rfl rfl ar45 el45 (by omega) (by omega) rfl) ?_
      refine AList.c0 rfl rfl (OpJ.store rfl rfl rfl rfl rfl ty3 rfl rfl) ?_
      refine AList.nil ?_
      refine AWp.region ?_
      refine AList.c 81 rfl rfl rfl (OpJ.move rfl rfl) ?_
      refine AList.c 82 rfl rfl rfl (OpJ.add rfl rfl rfl (i64ok ?_)) ?_
      · decide
      refine AList.c 16 rfl rfl rfl (OpJ.assign rfl rfl) ?_
      refine AList.nil ?_
      refine ARounds.next ?_
      refine AWp.norm [0, 1, 2] [(16, .p (.int .i64 4)), (15, .ptr 2 0), (14, .p (.is (ms.flatMap m1) b.length)), (13, .p (.is (xs.flatMap Cn.cells) l.length)), (11, .ptr 1 0), (9, .ptr 0 0), (6, .p (.ip [.int .i64 w.lo, .int .i64 w.hi] 0)), (3, .p (.is (ys.flatMap y1) ys.length)), (1, .p (takesV b)), (0, .p (sacksV l))] [.cells [.p (.int .i64 (wL l b 0)), .p (.int .i64 (wH l b 0)), .p (.int .i64 (wL l b 1)), .p (.int .i64 (wH l b 1)), .p (.int .i64 (wL l b 2)), .p (.int .i64 (wH l b 2)), .p (.int .i64 (wL l b 3)), .p (.int .i64 (wH l b 3)), .p (.int .i64 (wL l b 4)), .p (.int .i64 (wH l b 4))] 29, .cells [.p (.int .i64 (shL l b)), .p (.int .i64 (shH l b))] 25, .cells [.p (.int .i64 (allS (ofF 0) b xs ms b.length)), .p (.int .i64 (allS (ofF 1) b xs ms b.length)), .p (.int .i64 (allS (ofF 2) b xs ms b.length)), .p (.int .i64 (allS (ofF 3) b xs ms b.length)), .p (.int .i64 0)] 45] rfl (by repeat (first | exact Sub.nil | refine Sub.cons rfl ?_)) rfl ?_
      refine AWp.seq ?_
      refine AWp.seq ?_
      refine AWp.region ?_
      refine AList.c 79 rfl rfl rfl (OpJ.move rfl rfl) ?_
      refine AList.c 80 rfl rfl rfl (OpJ.lss rfl rfl rfl) ?_
      refine AList.nil ?_
      refine AWp.condT rfl ?_
      refine AWp.skip ?_
      refine AWp.seq ?_
      refine AWp.block ?_
      refine AWp.region ?_
      refine AList.c 83 rfl rfl rfl (OpJ.move rfl rfl) ?_
      refine AList.c 84 rfl rfl rfl (OpJ.move rfl rfl) ?_
      refine AList.c 85 rfl rfl rfl (OpJ.move rfl rfl) ?_
      refine AList.c 86 rfl rfl rfl (OpJ.move rfl rfl) ?_
      refine AList.c 87 rfl rfl rfl (OpJ.move rfl rfl) ?_
      refine AList.c 88 rfl rfl rfl (OpJ.callP (all_ok l b xs ms 4 (by decide) okl okb.1 okb.2 T) rfl rfl rfl rfl rf22) ?_
      refine AList.c 89 rfl rfl rfl (OpJ.indexArr rfl rfl rfl ar45 el45 (by omega) (by omega) rfl) ?_
      refine AList.c0 rfl rfl (OpJ.store rfl rfl rfl rfl rfl ty3 rfl rfl) ?_
      refine AList.nil ?_
      refine AWp.region ?_
      refine AList.c 81 rfl rfl rfl (OpJ.move rfl rfl) ?_
      refine AList.c 82 rfl rfl rfl (OpJ.add rfl rfl rfl (i64ok ?_)) ?_
      · decide
      refine AList.c 16 rfl rfl rfl (OpJ.assign rfl rfl) ?_
      refine AList.nil ?_
      refine ARounds.next ?_
      refine AWp.norm [0, 1, 2] [(16, .p (.int .i64 5)), (15, .ptr 2 0), (14, .p (.is (ms.flatMap m1) b.length)), (13, .p (.is (xs.flatMap Cn.cells) l.length)), (11, .ptr 1 0), (9, .ptr 0 0), (6, .p (.ip [.int .i64 w.lo, .int .i64 w.hi] 0)), (3, .p (.is (ys.flatMap y1) ys.length)), (1, .p (takesV b)), (0, .p (sacksV l))] [.cells [.p (.int .i64 (wL l b 0)), .p (.int .i64 (wH l b 0)), .p (.int .i64 (wL l b 1)), .p (.int .i64 (wH l b 1)), .p (.int .i64 (wL l b 2)), .p (.int .i64 (wH l b 2)), .p (.int .i64 (wL l b 3)), .p (.int .i64 (wH l b 3)), .p (.int .i64 (wL l b 4)), .p (.int .i64 (wH l b 4))] 29, .cells [.p (.int .i64 (shL l b)), .p (.int .i64 (shH l b))] 25, .cells [.p (.int .i64 (allS (ofF 0) b xs ms b.length)), .p (.int .i64 (allS (ofF 1) b xs ms b.length)), .p (.int .i64 (allS (ofF 2) b xs ms b.length)), .p (.int .i64 (allS (ofF 3) b xs ms b.length)), .p (.int .i64 (allS (ofF 4) b xs ms b.length))] 45] rfl (by repeat (first | exact Sub.nil | refine Sub.cons rfl ?_)) rfl ?_
      refine AWp.seq ?_
      refine AWp.seq ?_
      refine AWp.region ?_
      refine AList.c 79 rfl rfl rfl (OpJ.move rfl rfl) ?_
      refine AList.c 80 rfl rfl rfl (OpJ.lss rfl rfl rfl) ?_
      refine AList.nil ?_
      refine AWp.condF rfl ?_
      refine AWp.exit ?_
      refine AWp.seq ?_
      refine AWp.region ?_
      refine AList.c 17 rfl rfl rfl (OpJ.assign rfl rfl) ?_
      refine AList.nil ?_
      refine AWp.seq ?_
      refine AWp.seq ?_
      refine AWp.region ?_
      refine AList.c 18 rfl rfl rfl (OpJ.assign rfl rfl) ?_
      refine AList.nil ?_
      refine AWp.block ?_
      refine AWp.loopK [17, 18, 90, 91, 92, 93, 94, 95, 96, 97, 98, 99, 100, 101] (fun g => [(18, .p (.int .i64 ((g : Nat) : Int))), (17, .p (.int .i64 (sumM ms g)))]) (fun g => g ≤ b.length) (fun g => b.length - g) 0 (Nat.zero_le _) (Sub.cons rfl (Sub.cons rfl (Sub.nil))) (fun i hg => ?_)
      have sB := sumM_B okb.1 T i hg
      refine AWp.seq ?_
      refine AWp.seq ?_
      refine AWp.region ?_
      refine AList.c 90 rfl rfl rfl (OpJ.move rfl rfl) ?_
      refine AList.c 91 rfl rfl rfl (OpJ.move rfl rfl) ?_
      refine AList.c 92 rfl rfl rfl (OpJ.lenSlice rfl rfl sl42 rfl) ?_
      refine AList.c 93 rfl rfl rfl (OpJ.lss rfl rfl rfl) ?_
      refine AList.nil ?_
      refine AWp.cond _ rfl (fun hc3 => ?_) (fun hc3 => ?_)
      · skip
        have hk0 : i < b.length := by simp at hc3; omega
        have hm0 : i < ms.length := by have := T.lm; omega
        have em : mAt ms i = ms[i] := by unfold mAt; rw [List.getElem?_eq_getElem hm0, Option.getD_some]
        have hmi := T.m_B okb.1 hk0
        refine AWp.skip ?_
        refine AWp.seq ?_
        refine AWp.block ?_
        refine AWp.region ?_
        refine AList.c 96 rfl rfl rfl (OpJ.move rfl rfl) ?_
        refine AList.c 97 rfl rfl rfl (OpJ.move rfl rfl) ?_
        refine AList.c 98 rfl rfl rfl (OpJ.move rfl rfl) ?_
        refine AList.c 99 rfl rfl rfl (OpJ.indexEl rfl rfl rfl sl42 el42 T.lm.symm (fun _ => rfl) (by decide) hm0) ?_
        refine AList.c 100 rfl rfl rfl (OpJ.load rfl rfl ty3 rfl) ?_
        refine AList.c 101 rfl rfl rfl (OpJ.add rfl rfl rfl (i64ok ?_)) ?_
        · omega
        refine AList.c 17 rfl rfl rfl (OpJ.assign rfl rfl) ?_
        refine AList.nil ?_
        refine AWp.region ?_
        refine AList.c 94 rfl rfl rfl (OpJ.move rfl rfl) ?_
        refine AList.c 95 rfl rfl rfl (OpJ.add rfl rfl rfl (i64ok ?_)) ?_
        · omega
        refine AList.c 18 rfl rfl rfl (OpJ.assign rfl rfl) ?_
        refine AList.nil ?_
        refine ⟨i + 1, ?_, ?_, ?_⟩
        · omega
        · omega
        refine To.done [0, 1, 2] rfl ?_ rfl
        refine Sub.cons rfl (Sub.cons ?_ (by repeat (first | exact Sub.nil | refine Sub.cons rfl ?_)))
        show some (V.p (.int .i64 (_ + ms[i]))) = _
        rw [← em]
        rfl
      · skip
        obtain rfl : i = b.length := by simp at hc3; omega
        refine AWp.exit ?_
        refine AWp.seq ?_
        refine AWp.seq ?_
        refine AWp.region ?_
        refine AList.c 102 rfl rfl rfl (OpJ.indexArr rfl rfl rfl ar45 el45 (by omega) (by omega) rfl) ?_
        refine AList.c 103 rfl rfl rfl (OpJ.load rfl rfl ty3 rfl) ?_
        refine AList.c 104 rfl rfl rfl (OpJ.indexArr rfl rfl rfl ar45 el45 (by omega) (by omega) rfl) ?_
        refine AList.c 105 rfl rfl rfl (OpJ.load rfl rfl ty3 rfl) ?_
        refine AList.c 106 rfl rfl rfl (OpJ.add rfl rfl rfl (i64ok ?_)) ?_
        · omega
        refine AList.c 107 rfl rfl rfl (OpJ.indexArr rfl rfl rfl ar45 el45 (by omega) (by omega) rfl) ?_
        refine AList.c 108 rfl rfl rfl (OpJ.load rfl rfl ty3 rfl) ?_
        refine AList.c 109 rfl rfl rfl (OpJ.add rfl rfl rfl (i64ok ?_)) ?_
        · omega
        refine AList.c 110 rfl rfl rfl (OpJ.indexArr rfl rfl rfl ar45 el45 (by omega) (by omega) rfl) ?_
        refine AList.c 111 rfl rfl rfl (OpJ.load rfl rfl ty3 rfl) ?_
        refine AList.c 112 rfl rfl rfl (OpJ.add rfl rfl rfl (i64ok ?_)) ?_
        · omega
        refine AList.c 113 rfl rfl rfl (OpJ.move rfl rfl) ?_
        refine AList.c 114 rfl rfl rfl (OpJ.mul rfl rfl rfl (i64ok ?_)) ?_
        · omega
        refine AList.c 115 rfl rfl rfl (OpJ.neq rfl rfl rfl) ?_
        refine AList.c 116 rfl rfl rfl (OpJ.move rfl rfl) ?_
        refine AList.g 117 116 rfl rfl rfl rfl rfl rfl rfl [(15, _)] (fun h => And.intro (.inl rfl) (trivial)) (fun h => (OpJ.indexArr rfl rfl rfl ar45 el45 (by omega) (by omega) rfl)) ?_
        refine AList.g 118 116 rfl rfl rfl rfl rfl rfl rfl [(117, _)] (fun h => And.intro (.inr ⟨_, rfl, h⟩) (trivial)) (fun h => (OpJ.load rfl rfl ty3 rfl)) ?_
        refine AList.g 119 116 rfl rfl rfl rfl rfl rfl rfl [(15, _)] (fun h => And.intro (.inl rfl) (trivial)) (fun h => (OpJ.indexArr rfl rfl rfl ar45 el45 (by omega) (by omega) rfl)) ?_
        refine AList.g 120 116 rfl rfl rfl rfl rfl rfl rfl [(119, _)] (fun h => And.intro (.inr ⟨_, rfl, h⟩) (trivial)) (fun h => (OpJ.load rfl rfl ty3 rfl)) ?_
        refine AList.g 121 116 rfl rfl rfl rfl rfl rfl rfl [(15, _)] (fun h => And.intro (.inl rfl) (trivial)) (fun h => (OpJ.indexArr rfl rfl rfl ar45 el45 (by omega) (by omega) rfl)) ?_
        refine AList.g 122 116 rfl rfl rfl rfl rfl rfl rfl [(121, _)] (fun h => And.intro (.inr ⟨_, rfl, h⟩) (trivial)) (fun h => (OpJ.load rfl rfl ty3 rfl)) ?_
        refine AList.g 123 116 rfl rfl rfl rfl rfl rfl rfl [(120, _), (122, _)] (fun h => And.intro (.inr ⟨_, rfl, h⟩) (And.intro (.inr ⟨_, rfl, h⟩) (trivial))) (fun h => (OpJ.add rfl rfl rfl (i64ok (by omega)))) ?_
        refine AList.g 124 116 rfl rfl rfl rfl rfl rfl rfl [(118, _), (123, _)] (fun h => And.intro (.inr ⟨_, rfl, h⟩) (And.intro (.inr ⟨_, rfl, h⟩) (trivial))) (fun h => (OpJ.neq rfl rfl rfl)) ?_
        refine AList.c 125 rfl rfl rfl (OpJ.or_ rfl rfl rfl ?_) ?_
        · first | (intro h; rw [h]; rfl) | (intro h; simp_all)
        refine AList.c 126 rfl rfl rfl (OpJ.move rfl rfl) ?_
        refine AList.g 127 126 rfl rfl rfl rfl rfl rfl rfl [(15, _)] (fun h => And.intro (.inl rfl) (trivial)) (fun h => (OpJ.indexArr rfl rfl rfl ar45 el45 (by omega) (by omega) rfl)) ?_
        refine AList.g 128 126 rfl rfl rfl rfl rfl rfl rfl [(127, _)] (fun h => And.intro (.inr ⟨_, rfl, h⟩) (trivial)) (fun h => (OpJ.load rfl rfl ty3 rfl)) ?_
        refine AList.g 129 126 rfl rfl rfl rfl rfl rfl rfl [(128, _)] (fun h => And.intro (.inr ⟨_, rfl, h⟩) (trivial)) (fun h => (OpJ.leq rfl rfl rfl)) ?_
        refine AList.c 130 rfl rfl rfl (OpJ.or_ rfl rfl rfl ?_) ?_
        · first | (intro h; rw [h]; rfl) | (intro h; simp_all)
        refine AList.nil ?_
        refine AWp.cond _ rfl (fun hc4 => ?_) (fun hc4 => ?_)
        · skip
          exfalso
          simp only [Bool.or_eq_true, Bool.not_eq_true', decide_eq_true_eq, decide_eq_false_iff_not] at hc4
          omega
        · skip
          refine AWp.skip ?_
          refine AWp.seq ?_
          refine AWp.seq ?_
          refine AWp.region ?_
          refine AList.c 131 rfl rfl rfl (OpJ.indexArr rfl rfl rfl ar45 el45 (by omega) (by omega) rfl) ?_
          refine AList.c 132 rfl rfl rfl (OpJ.load rfl rfl ty3 rfl) ?_
          refine AList.c 133 rfl rfl rfl (OpJ.fieldAddr rfl rfl fd29_0 rfl) ?_
          refine AList.c 134 rfl rfl rfl (OpJ.load rfl rfl ty25 rfl) ?_
          refine AList.c 135 rfl rfl rfl (OpJ.callP (inside_ok _ _ _ (by omega) (by omega)) rfl rfl rfl rfl rf23) ?_
          refine AList.c 136 rfl rfl rfl (OpJ.not_ rfl rfl) ?_
          refine AList.c 137 rfl rfl rfl (OpJ.move rfl rfl) ?_
          refine AList.g 138 137 rfl rfl rfl rfl rfl rfl rfl [(15, _)] (fun h => And.intro (.inl rfl) (trivial)) (fun h => (OpJ.indexArr rfl rfl rfl ar45 el45 (by omega) (by omega) rfl)) ?_
          refine AList.g 139 137 rfl rfl rfl rfl rfl rfl rfl [(138, _)] (fun h => And.intro (.inr ⟨_, rfl, h⟩) (trivial)) (fun h => (OpJ.load rfl rfl ty3 rfl)) ?_
          refine AList.g 140 137 rfl rfl rfl rfl rfl rfl rfl [(9, _)] (fun h => And.intro (.inl rfl) (trivial)) (fun h => (OpJ.fieldAddr rfl rfl fd29_1 rfl)) ?_
          refine AList.g 141 137 rfl rfl rfl rfl rfl rfl rfl [(140, _)] (fun h => And.intro (.inr ⟨_, rfl, h⟩) (trivial)) (fun h => (OpJ.load rfl rfl ty25 rfl)) ?_
          refine AList.g 142 137 rfl rfl rfl rfl rfl rfl rfl [(139, _), (141, _)] (fun h => And.intro (.inr ⟨_, rfl, h⟩) (And.intro (.inr ⟨_, rfl, h⟩) (trivial))) (fun h => (OpJ.callP (inside_ok _ _ _ (by omega) (by omega)) rfl rfl rfl rfl rf23)) ?_
          refine AList.g 143 137 rfl rfl rfl rfl rfl rfl rfl [(142, _)] (fun h => And.intro (.inr ⟨_, rfl, h⟩) (trivial)) (fun h => (OpJ.not_ rfl rfl)) ?_
          refine AList.c 144 rfl rfl rfl (OpJ.or_ rfl rfl rfl ?_) ?_
          · first | (intro h; rw [h]; rfl) | (intro h; simp_all)
          refine AList.c 145 rfl rfl rfl (OpJ.move rfl rfl) ?_
          refine AList.g 146 145 rfl rfl rfl rfl rfl rfl rfl [(15, _)] (fun h => And.intro (.inl rfl) (trivial)) (fun h => (OpJ.indexArr rfl rfl rfl ar45 el45 (by omega) (by omega) rfl)) ?_
          refine AList.g 147 145 rfl rfl rfl rfl rfl rfl rfl [(146, _)] (fun h => And.intro (.inr ⟨_, rfl, h⟩) (trivial)) (fun h => (OpJ.load rfl rfl ty3 rfl)) ?_
          refine AList.g 148 145 rfl rfl rfl rfl rfl rfl rfl [(9, _)] (fun h => And.intro (.inl rfl) (trivial)) (fun h => (OpJ.fieldAddr rfl rfl fd29_2 rfl)) ?_
          refine AList.g 149 145 rfl rfl rfl rfl rfl rfl rfl [(148, _)] (fun h => And.intro (.inr ⟨_, rfl, h⟩) (trivial)) (fun h => (OpJ.load rfl rfl ty25 rfl)) ?_
          refine AList.g 150 145 rfl rfl rfl rfl rfl rfl rfl [(147, _), (149, _)] (fun h => And.intro (.inr ⟨_, rfl, h⟩) (And.intro (.inr ⟨_, rfl, h⟩) (trivial))) (fun h => (OpJ.callP (inside_ok _ _ _ (by omega) (by omega)) rfl rfl rfl rfl rf23)) ?_
          refine AList.g 151 145 rfl rfl rfl rfl rfl rfl rfl [(150, _)] (fun h => And.intro (.inr ⟨_, rfl, h⟩) (trivial)) (fun h => (OpJ.not_ rfl rfl)) ?_
          refine AList.c 152 rfl rfl rfl (OpJ.or_ rfl rfl rfl ?_) ?_
          · first | (intro h; rw [h]; rfl) | (intro h; simp_all)
          refine AList.c 153 rfl rfl rfl (OpJ.move rfl rfl) ?_
          refine AList.g 154 153 rfl rfl rfl rfl rfl rfl rfl [(15, _)] (fun h => And.intro (.inl rfl) (trivial)) (fun h => (OpJ.indexArr rfl rfl rfl ar45 el45 (by omega) (by omega) rfl)) ?_
          refine AList.g 155 153 rfl rfl rfl rfl rfl rfl rfl [(154, _)] (fun h => And.intro (.inr ⟨_, rfl, h⟩) (trivial)) (fun h => (OpJ.load rfl rfl ty3 rfl)) ?_
          refine AList.g 156 153 rfl rfl rfl rfl rfl rfl rfl [(9, _)] (fun h => And.intro (.inl rfl) (trivial)) (fun h => (OpJ.fieldAddr rfl rfl fd29_3 rfl)) ?_
          refine AList.g 157 153 rfl rfl rfl rfl rfl rfl rfl [(156, _)] (fun h => And.intro (.inr ⟨_, rfl, h⟩) (trivial)) (fun h => (OpJ.load rfl rfl ty25 rfl)) ?_
          refine AList.g 158 153 rfl rfl rfl rfl rfl rfl rfl [(155, _), (157, _)] (fun h => And.intro (.inr ⟨_, rfl, h⟩) (And.intro (.inr ⟨_, rfl, h⟩) (trivial))) (fun h => (OpJ.callP (inside_ok _ _ _ (by omega) (by omega)) rfl rfl rfl rfl rf23)) ?_
          refine AList.g 159 153 rfl rfl rfl rfl rfl rfl rfl [(158, _)] (fun h => And.intro (.inr ⟨_, rfl, h⟩) (trivial)) (fun h => (OpJ.not_ rfl rfl)) ?_
          refine AList.c 160 rfl rfl rfl (OpJ.or_ rfl rfl rfl ?_) ?_
          · first | (intro h; rw [h]; rfl) | (intro h; simp_all)
          refine AList.c 161 rfl rfl rfl (OpJ.move rfl rfl) ?_
          refine AList.g 162 161 rfl rfl rfl rfl rfl rfl rfl [(15, _)] (fun h => And.intro (.inl rfl) (trivial)) (fun h => (OpJ.indexArr rfl rfl rfl ar45 el45 (by omega) (by omega) rfl)) ?_
          refine AList.g 163 161 rfl rfl rfl rfl rfl rfl rfl [(162, _)] (fun h => And.intro (.inr ⟨_, rfl, h⟩) (trivial)) (fun h => (OpJ.load rfl rfl ty3 rfl)) ?_
          refine AList.g 164 161 rfl rfl rfl rfl rfl rfl rfl [(9, _)] (fun h => And.intro (.inl rfl) (trivial)) (fun h => (OpJ.fieldAddr rfl rfl fd29_4 rfl)) ?_
          refine AList.g 165 161 rfl rfl rfl rfl rfl rfl rfl [(164, _)] (fun h => And.intro (.inr ⟨_, rfl, h⟩) (trivial)) (fun h => (OpJ.load rfl rfl ty25 rfl)) ?_
          refine AList.g 166 161 rfl rfl rfl rfl rfl rfl rfl [(163, _), (165, _)] (fun h => And.intro (.inr ⟨_, rfl, h⟩) (And.intro (.inr ⟨_, rfl, h⟩) (trivial))) (fun h => (OpJ.callP (inside_ok _ _ _ (by omega) (by omega)) rfl rfl rfl rfl rf23)) ?_
          refine AList.g 167 161 rfl rfl rfl rfl rfl rfl rfl [(166, _)] (fun h => And.intro (.inr ⟨_, rfl, h⟩) (trivial)) (fun h => (OpJ.not_ rfl rfl)) ?_
          refine AList.c 168 rfl rfl rfl (OpJ.or_ rfl rfl rfl ?_) ?_
          · first | (intro h; rw [h]; rfl) | (intro h; simp_all)
          refine AList.c 169 rfl rfl rfl (OpJ.move rfl rfl) ?_
          refine AList.g 170 169 rfl rfl rfl rfl rfl rfl rfl [(15, _)] (fun h => And.intro (.inl rfl) (trivial)) (fun h => (OpJ.indexArr rfl rfl rfl ar45 el45 (by omega) (by omega) rfl)) ?_
          refine AList.g 171 169 rfl rfl rfl rfl rfl rfl rfl [(170, _)] (fun h => And.intro (.inr ⟨_, rfl, h⟩) (trivial)) (fun h => (OpJ.load rfl rfl ty3 rfl)) ?_
          refine AList.g 172 169 rfl rfl rfl rfl rfl rfl rfl [(171, _)] (fun h => And.intro (.inr ⟨_, rfl, h⟩) (trivial)) (fun h => (OpJ.mul rfl rfl rfl (i64ok (by omega)))) ?_
          refine AList.g 173 169 rfl rfl rfl rfl rfl rfl rfl [(11, _)] (fun h => And.intro (.inl rfl) (trivial)) (fun h => (OpJ.fieldAddr rfl rfl fd25_0 rfl)) ?_
          refine AList.g 174 169 rfl rfl rfl rfl rfl rfl rfl [(173, _)] (fun h => And.intro (.inr ⟨_, rfl, h⟩) (trivial)) (fun h => (OpJ.load rfl rfl ty3 rfl)) ?_
          refine AList.g 175 169 rfl rfl rfl rfl rfl rfl rfl [(15, _)] (fun h => And.intro (.inl rfl) (trivial)) (fun h => (OpJ.indexArr rfl rfl rfl ar45 el45 (by omega) (by omega) rfl)) ?_
          refine AList.g 176 169 rfl rfl rfl rfl rfl rfl rfl [(175, _)] (fun h => And.intro (.inr ⟨_, rfl, h⟩) (trivial)) (fun h => (OpJ.load rfl rfl ty3 rfl)) ?_
          refine AList.g 177 169 rfl rfl rfl rfl rfl rfl rfl [(174, _), (176, _)] (fun h => And.intro (.inr ⟨_, rfl, h⟩) (And.intro (.inr ⟨_, rfl, h⟩) (trivial))) (fun h => (OpJ.mul rfl rfl rfl (i64ok (by omega)))) ?_
          refine AList.g 178 169 rfl rfl rfl rfl rfl rfl rfl [(172, _), (177, _)] (fun h => And.intro (.inr ⟨_, rfl, h⟩) (And.intro (.inr ⟨_, rfl, h⟩) (trivial))) (fun h => (OpJ.lss rfl rfl rfl)) ?_
          refine AList.c 179 rfl rfl rfl (OpJ.or_ rfl rfl rfl ?_) ?_
          · first | (intro h; rw [h]; rfl) | (intro h; simp_all)
          refine AList.c 180 rfl rfl rfl (OpJ.move rfl rfl) ?_
          refine AList.g 181 180 rfl rfl rfl rfl rfl rfl rfl [(15, _)] (fun h => And.intro (.inl rfl) (trivial)) (fun h => (OpJ.indexArr rfl rfl rfl ar45 el45 (by omega) (by omega) rfl)) ?_
          refine AList.g 182 180 rfl rfl rfl rfl rfl rfl rfl [(181, _)] (fun h => And.intro (.inr ⟨_, rfl, h⟩) (trivial)) (fun h => (OpJ.load rfl rfl ty3 rfl)) ?_
          refine AList.g 183 180 rfl rfl rfl rfl rfl rfl rfl [(182, _)] (fun h => And.intro (.inr ⟨_, rfl, h⟩) (trivial)) (fun h => (OpJ.mul rfl rfl rfl (i64ok (by omega)))) ?_
          refine AList.g 184 180 rfl rfl rfl rfl rfl rfl rfl [(11, _)] (fun h => And.intro (.inl rfl) (trivial)) (fun h => (OpJ.fieldAddr rfl rfl fd25_1 rfl)) ?_
          refine AList.g 185 180 rfl rfl rfl rfl rfl rfl rfl [(184, _)] (fun h => And.intro (.inr ⟨_, rfl, h⟩) (trivial)) (fun h => (OpJ.load rfl rfl ty3 rfl)) ?_
          refine AList.g 186 180 rfl rfl rfl rfl rfl rfl rfl [(15, _)] (fun h => And.intro (.inl rfl) (trivial)) (fun h => (OpJ.indexArr rfl rfl rfl ar45 el45 (by omega) (by omega) rfl)) ?_
          refine AList.g 187 180 rfl rfl rfl rfl rfl rfl rfl [(186, _)] (fun h => And.intro (.inr ⟨_, rfl, h⟩) (trivial)) (fun h => (OpJ.load rfl rfl ty3 rfl)) ?_
          refine AList.g 188 180 rfl rfl rfl rfl rfl rfl rfl [(185, _), (187, _)] (fun h => And.intro (.inr ⟨_, rfl, h⟩) (And.intro (.inr ⟨_, rfl, h⟩) (trivial))) (fun h => (OpJ.mul rfl rfl rfl (i64ok (by omega)))) ?_
          refine AList.g 189 180 rfl rfl rfl rfl rfl rfl rfl [(183, _), (188, _)] (fun h => And.intro (.inr ⟨_, rfl, h⟩) (And.intro (.inr ⟨_, rfl, h⟩) (trivial))) (fun h => (OpJ.gtr rfl rfl rfl)) ?_
          refine AList.c 190 rfl rfl rfl (OpJ.or_ rfl rfl rfl ?_) ?_
          · first | (intro h; rw [h]; rfl) | (intro h; simp_all)
          refine AList.nil ?_
          refine AWp.cond _ rfl (fun hc5 => ?_) (fun hc5 => ?_)
          · skip
            exfalso
            have j0 : (decide (wL l b 0 * 1000000000 ≤ allS (ofF 0) b xs ms b.length) && decide (allS (ofF 0) b xs ms b.length ≤ wH l b 0 * 1000000000)) = true := by simp [i0.1, i0.2]
            have j1 : (decide (wL l b 1 * 1000000000 ≤ allS (ofF 1) b xs ms b.length) && decide (allS (ofF 1) b xs ms b.length ≤ wH l b 1 * 1000000000)) = true := by simp [i1.1, i1.2]
            have j2 : (decide (wL l b 2 * 1000000000 ≤ allS (ofF 2) b xs ms b.length) && decide (allS (ofF 2) b xs ms b.length ≤ wH l b 2 * 1000000000)) = true := by simp [i2.1, i2.2]
            have j3 : (decide (wL l b 3 * 1000000000 ≤ allS (ofF 3) b xs ms b.length) && decide (allS (ofF 3) b xs ms b.length ≤ wH l b 3 * 1000000000)) = true := by simp [i3.1, i3.2]
            have j4 : (decide (wL l b 4 * 1000000000 ≤ allS (ofF 4) b xs ms b.length) && decide (allS (ofF 4) b xs ms b.length ≤ wH l b 4 * 1000000000)) = true := by simp [i4.1, i4.2]
            rw [j0, j1, j2, j3, j4] at hc5
            simp at hc5
            omega
          · skip
            refine AWp.skip ?_
            refine AWp.seq ?_
            refine AWp.region ?_
            refine AList.c 192 rfl rfl rfl (OpJ.move rfl rfl) ?_
            refine AList.c 193 rfl rfl rfl (OpJ.move rfl rfl) ?_
            refine AList.c 194 rfl rfl rfl (OpJ.load rfl rfl ty25 rfl) ?_
            refine AList.c 195 rfl rfl rfl (OpJ.callP (water_n l b w hl hb) rfl rfl rfl rfl rf15) ?_
            refine AList.c 191 rfl rfl rfl (OpJ.move rfl rfl) ?_
            refine AList.c 196 rfl rfl rfl (OpJ.extract rfl rfl rfl) ?_
            refine AList.c 197 rfl rfl rfl (OpJ.extract rfl rfl rfl) ?_
            refine AList.c 19 rfl rfl rfl (OpJ.allocOwn rfl zr25 rfl) ?_
            refine AList.c0 rfl rfl (OpJ.store rfl rfl rfl rfl rfl ty25 rfl rfl) ?_
            refine AList.c 20 rfl rfl rfl (OpJ.assign rfl rfl) ?_
            refine AList.nil ?_
            refine AWp.seq ?_
            refine AWp.seq ?_
            refine AWp.region ?_
            refine AList.c 198 rfl rfl rfl (OpJ.move rfl rfl) ?_
            refine AList.c 199 rfl rfl rfl (OpJ.neq rfl rfl rfl) ?_
            refine AList.nil ?_
            refine AWp.cond _ rfl (fun hc6 => ?_) (fun hc6 => ?_)
            · skip
              have hwb := wa_bad hv (w := w) (by simpa using hc6)
              refine AWp.seq ?_
              refine AWp.region ?_
              refine AList.c 200 rfl rfl rfl (OpJ.load rfl rfl ty25 rfl) ?_
              refine AList.c 201 rfl rfl rfl (OpJ.build rfl bd25 rfl rfl) ?_
              refine AList.c 202 rfl rfl rfl (OpJ.eqAgg (d := 8) rfl (.inl rfl) rfl rfl (by decide) eq25 ty25 rfl eg25 rfl) ?_
              refine AList.c 203 rfl rfl rfl (OpJ.move rfl rfl) ?_
              refine AList.g 204 203 rfl rfl rfl rfl rfl rfl rfl [(20, _)] (fun h => And.intro (.inl rfl) (trivial)) (fun h => (OpJ.move rfl rfl)) ?_
              refine AList.g 205 203 rfl rfl rfl rfl rfl rfl rfl [(204, _)] (fun h => And.intro (.inr ⟨_, rfl, h⟩) (trivial)) (fun h => (OpJ.eql rfl rfl rfl)) ?_
              refine AList.g 206 203 rfl rfl rfl rfl rfl rfl rfl [(205, _)] (fun h => And.intro (.inr ⟨_, rfl, h⟩) (trivial)) (fun h => (OpJ.move rfl rfl)) ?_
              refine AList.g 207 206 rfl rfl rfl rfl rfl rfl rfl [(20, _)] (fun h => And.intro (.inl rfl) (trivial)) (fun h => (OpJ.move rfl rfl)) ?_
              refine AList.g 208 206 rfl rfl rfl rfl rfl rfl rfl [(207, _)] (fun h => And.intro (.inr ⟨_, rfl, h⟩) (trivial)) (fun h => (OpJ.eql rfl rfl rfl)) ?_
              refine AList.g 209 203 rfl rfl rfl rfl rfl rfl rfl [(206, _), (208, _)] (fun h => And.intro (.inr ⟨_, rfl, h⟩) (And.intro (.inl rfl) (trivial))) (fun h => (OpJ.or_ rfl rfl rfl ?_)) ?_
              · first | (intro h; rw [h]; rfl) | (intro h; simp_all)
              refine AList.c 210 rfl rfl rfl (OpJ.and_ rfl rfl rfl ?_) ?_
              · first | (intro h; rw [h]; rfl) | (intro h; simp_all)
              refine AList.c 211 rfl rfl rfl (OpJ.move rfl rfl) ?_
              refine AList.g 212 211 rfl rfl rfl rfl rfl rfl rfl [] (fun h => trivial) (fun h => (OpJ.callP (awake_ok) rfl rfl rfl rfl rf10)) ?_
              refine AList.c 213 rfl rfl rfl (OpJ.and_ rfl rfl rfl ?_) ?_
              · first | (intro h; rw [h]; rfl) | (intro h; simp_all)
              refine AList.c 8 rfl rfl rfl (OpJ.assign rfl rfl) ?_
              refine AList.nil ?_
              refine AWp.ret ?_
              refine Fin.oneE rfl rfl ?_
              rw [hwb.1, hwb.2.1]
              rcases hwb.2.2 with h | h <;> rw [h] <;> rfl
            · skip
              have hE : waE l b w = 0 := by simpa using hc6
              have hwg := wa_good hE
              have f6a := F6 okl okb.1 okb.2 T hE (more := waL l b w) ⟨Int.le_refl _, hwg.2.2.1⟩
              have f6b := F6 okl okb.1 okb.2 T hE (more := waH l b w) ⟨hwg.2.2.1, Int.le_refl _⟩
              have dS := drops_sum (b := b) (xs := xs) (ms := ms)
              have q1 := mulB (a := w.lo) (A := 999) (b := sumM ms b.length + waL l b w) (B := 1074541824) (by omega) (by omega)
              have q2 := mulB (a := w.hi) (A := 999) (b := sumM ms b.length + waL l b w) (B := 1074541824) (by omega) (by omega)
              have q3 := mulB (a := w.lo) (A := 999) (b := sumM ms b.length + waH l b w) (B := 1074541824) (by omega) (by omega)
              have q4 := mulB (a := w.hi) (A := 999) (b := sumM ms b.length + waH l b w) (B := 1074541824) (by omega) (by omega)
              refine AWp.skip ?_
              refine AWp.seq ?_
              refine AWp.region ?_
              refine AList.c 214 rfl rfl rfl (OpJ.indexArr rfl rfl rfl ar45 el45 (by omega) (by omega) rfl) ?_
              refine AList.c 215 rfl rfl rfl (OpJ.load rfl rfl ty3 rfl) ?_
              refine AList.c 216 rfl rfl rfl (OpJ.quo (m := allS (fun w _ _ => w) b xs ms b.length) rfl rfl rfl ?_ ((i64ok ?_).trans ?_)) ?_
              · decide
              · have := tdiv_le (n := allS (ofF 0) b xs ms b.length) (d := 1000000) (B := 1600000000000000) (by decide) (by omega); omega
              · rw [drops_sum, Int.mul_tdiv_cancel_left _ (by decide)]
              refine AList.c 21 rfl rfl rfl (OpJ.assign rfl rfl) ?_
              refine AList.nil ?_
              refine AWp.seq ?_
              refine AWp.seq ?_
              refine AWp.region ?_
              refine AList.c 22 rfl rfl rfl (OpJ.assign rfl rfl) ?_
              refine AList.nil ?_
              refine AWp.block ?_
              refine AWp.unroll 3 ?_
              refine ARounds.next ?_
              refine AWp.seq ?_
              refine AWp.seq ?_
              refine AWp.region ?_
              refine AList.c 217 rfl rfl rfl (OpJ.move rfl rfl) ?_
              refine AList.c 218 rfl rfl rfl (OpJ.lss rfl rfl rfl) ?_
              refine AList.nil ?_
              refine AWp.condT rfl ?_
              refine AWp.skip ?_
              refine AWp.seq ?_
              refine AWp.block ?_
              refine AWp.seq ?_
              refine AWp.region ?_
              refine AList.c 221 rfl rfl rfl (OpJ.fieldAddr rfl rfl fd25_0 rfl) ?_
              refine AList.c 222 rfl rfl rfl (OpJ.load rfl rfl ty3 rfl) ?_
              refine AList.c 23 rfl rfl rfl (OpJ.assign rfl rfl) ?_
              refine AList.nil ?_
              refine AWp.seq ?_
              refine AWp.seq ?_
              refine AWp.region ?_
              refine AList.c 223 rfl rfl rfl (OpJ.move rfl rfl) ?_
              refine AList.c 224 rfl rfl rfl (OpJ.eql rfl rfl rfl) ?_
              refine AList.nil ?_
              refine AWp.condF rfl ?_
              refine AWp.skip ?_
              refine AWp.seq ?_
              refine AWp.region ?_
              refine AList.c 227 rfl rfl rfl (OpJ.move rfl rfl) ?_
              refine AList.c 228 rfl rfl rfl (OpJ.move rfl rfl) ?_
              refine AList.c 229 rfl rfl rfl (OpJ.mul rfl rfl rfl (i64ok ?_)) ?_
              · omega
              refine AList.c 230 rfl rfl rfl (OpJ.add rfl rfl rfl (i64ok ?_)) ?_
              · omega
              refine AList.c 231 rfl rfl rfl (OpJ.mul rfl rfl rfl (i64ok ?_)) ?_
              · omega
              refine AList.c 232 rfl rfl rfl (OpJ.fieldAddr rfl rfl fd25_0 rfl) ?_
              refine AList.c 233 rfl rfl rfl (OpJ.load rfl rfl ty3 rfl) ?_
              refine AList.c 234 rfl rfl rfl (OpJ.move rfl rfl) ?_
              refine AList.c 235 rfl rfl rfl (OpJ.move rfl rfl) ?_
              refine AList.c 236 rfl rfl rfl (OpJ.add rfl rfl rfl (i64ok ?_)) ?_
              · omega
              refine AList.c 237 rfl rfl rfl (OpJ.mul rfl rfl rfl (i64ok ?_)) ?_
              · omega
              refine AList.c 238 rfl rfl rfl (OpJ.mul rfl rfl rfl (i64ok ?_)) ?_
              · omega
              refine AList.c 239 rfl rfl rfl (OpJ.lss rfl rfl rfl) ?_
              refine AList.c 240 rfl rfl rfl (OpJ.move rfl rfl) ?_
              refine AList.g 241 240 rfl rfl rfl rfl rfl rfl rfl [(21, _)] (fun h => And.intro (.inl rfl) (trivial)) (fun h => (OpJ.move rfl rfl)) ?_
              refine AList.g 242 240 rfl rfl rfl rfl rfl rfl rfl [(23, _)] (fun h => And.intro (.inl rfl) (trivial)) (fun h => (OpJ.move rfl rfl)) ?_
              refine AList.g 243 240 rfl rfl rfl rfl rfl rfl rfl [(242, _)] (fun h => And.intro (.inr ⟨_, rfl, h⟩) (trivial)) (fun h => (OpJ.mul rfl rfl rfl (i64ok (by omega)))) ?_
              refine AList.g 244 240 rfl rfl rfl rfl rfl rfl rfl [(241, _), (243, _)] (fun h => And.intro (.inr ⟨_, rfl, h⟩) (And.intro (.inr ⟨_, rfl, h⟩) (trivial))) (fun h => (OpJ.add rfl rfl rfl (i64ok (by omega)))) ?_
              refine AList.g 245 240 rfl rfl rfl rfl rfl rfl rfl [(244, _)] (fun h => And.intro (.inr ⟨_, rfl, h⟩) (trivial)) (fun h => (OpJ.mul rfl rfl rfl (i64ok (by omega)))) ?_
              refine AList.g 246 240 rfl rfl rfl rfl rfl rfl rfl [(6, _)] (fun h => And.intro (.inl rfl) (trivial)) (fun h => (OpJ.fieldAddr rfl rfl fd25_1 rfl)) ?_
              refine AList.g 247 240 rfl rfl rfl rfl rfl rfl rfl [(246, _)] (fun h => And.intro (.inr ⟨_, rfl, h⟩) (trivial)) (fun h => (OpJ.load rfl rfl ty3 rfl)) ?_
              refine AList.g 248 240 rfl rfl rfl rfl rfl rfl rfl [(17, _)] (fun h => And.intro (.inl rfl) (trivial)) (fun h => (OpJ.move rfl rfl)) ?_
              refine AList.g 249 240 rfl rfl rfl rfl rfl rfl rfl [(23, _)] (fun h => And.intro (.inl rfl) (trivial)) (fun h => (OpJ.move rfl rfl)) ?_
              refine AList.g 250 240 rfl rfl rfl rfl rfl rfl rfl [(248, _), (249, _)] (fun h => And.intro (.inr ⟨_, rfl, h⟩) (And.intro (.inr ⟨_, rfl, h⟩) (trivial))) (fun h => (OpJ.add rfl rfl rfl (i64ok (by omega)))) ?_
              refine AList.g 251 240 rfl rfl rfl rfl rfl rfl rfl [(247, _), (250, _)] (fun h => And.intro (.inr ⟨_, rfl, h⟩) (And.intro (.inr ⟨_, rfl, h⟩) (trivial))) (fun h => (OpJ.mul rfl rfl rfl (i64ok (by omega)))) ?_
              refine AList.g 252 240 rfl rfl rfl rfl rfl rfl rfl [(251, _)] (fun h => And.intro (.inr ⟨_, rfl, h⟩) (trivial)) (fun h => (OpJ.mul rfl rfl rfl (i64ok (by omega)))) ?_
              refine AList.g 253 240 rfl rfl rfl rfl rfl rfl rfl [(245, _), (252, _)] (fun h => And.intro (.inr ⟨_, rfl, h⟩) (And.intro (.inr ⟨_, rfl, h⟩) (trivial))) (fun h => (OpJ.gtr rfl rfl rfl)) ?_
              refine AList.c 254 rfl rfl rfl (OpJ.or_ rfl rfl rfl ?_) ?_
              · first | (intro h; rw [h]; rfl) | (intro h; simp_all)
              refine AList.nil ?_
              refine AWp.cond _ rfl (fun hc9 => ?_) (fun hc9 => ?_)
              · skip
                exfalso
                simp at hc9
                omega
              · skip
                refine AWp.skip ?_
                refine AWp.region ?_
                refine AList.c 219 rfl rfl rfl (OpJ.move rfl rfl) ?_
                refine AList.c 220 rfl rfl rfl (OpJ.add rfl rfl rfl (i64ok ?_)) ?_
                · decide
                refine AList.c 22 rfl rfl rfl (OpJ.assign rfl rfl) ?_
                refine AList.nil ?_
                refine ARounds.next ?_
                refine AWp.seq ?_
                refine AWp.seq ?_
                refine AWp.region ?_
                refine AList.c 217 rfl rfl rfl (OpJ.move rfl rfl) ?_
                refine AList.c 218 rfl rfl rfl (OpJ.lss rfl rfl rfl) ?_
                refine AList.nil ?_
                refine AWp.condT rfl ?_
                refine AWp.skip ?_
                refine AWp.seq ?_
                refine AWp.block ?_
                refine AWp.seq ?_
                refine AWp.region ?_
                refine AList.c 221 rfl rfl rfl (OpJ.fieldAddr rfl rfl fd25_0 rfl) ?_
                refine AList.c 222 rfl rfl rfl (OpJ.load rfl rfl ty3 rfl) ?_
                refine AList.c 23 rfl rfl rfl (OpJ.assign rfl rfl) ?_
                refine AList.nil ?_
                refine AWp.seq ?_
                refine AWp.seq ?_
                refine AWp.region ?_
                refine AList.c 223 rfl rfl rfl (OpJ.move rfl rfl) ?_
                refine AList.c 224 rfl rfl rfl (OpJ.eql rfl rfl rfl) ?_
                refine AList.nil ?_
                refine AWp.condT rfl ?_
                refine AWp.region ?_
                refine AList.c 225 rfl rfl rfl (OpJ.fieldAddr rfl rfl fd25_1 rfl) ?_
                refine AList.c 226 rfl rfl rfl (OpJ.load rfl rfl ty3 rfl) ?_
                refine AList.c 23 rfl rfl rfl (OpJ.assign rfl rfl) ?_
                refine AList.nil ?_
                refine AWp.seq ?_
                refine AWp.region ?_
                refine AList.c 227 rfl rfl rfl (OpJ.move rfl rfl) ?_
                refine AList.c 228 rfl rfl rfl (OpJ.move rfl rfl) ?_
                refine AList.c 229 rfl rfl rfl (OpJ.mul rfl rfl rfl (i64ok ?_)) ?_
                · omega
                refine AList.c 230 rfl rfl rfl (OpJ.add rfl rfl rfl (i64ok ?_)) ?_
                · omega
                refine AList.c 231 rfl rfl rfl (OpJ.mul rfl rfl rfl (i64ok ?_)) ?_
                · omega
                refine AList.c 232 rfl rfl rfl (OpJ.fieldAddr rfl rfl fd25_0 rfl) ?_
                refine AList.c 233 rfl rfl rfl (OpJ.load rfl rfl ty3 rfl) ?_
                refine AList.c 234 rfl rfl rfl (OpJ.move rfl rfl) ?_
                refine AList.c 235 rfl rfl rfl (OpJ.move rfl rfl) ?_
                refine AList.c 236 rfl rfl rfl (OpJ.add rfl rfl rfl (i64ok ?_)) ?_
                · omega
                refine AList.c 237 rfl rfl rfl (OpJ.mul rfl rfl rfl (i64ok ?_)) ?_
                · omega
                refine AList.c 238 rfl rfl rfl (OpJ.mul rfl rfl rfl (i64ok ?_)) ?_
                · omega
                refine AList.c 239 rfl rfl rfl (OpJ.lss rfl rfl rfl) ?_
                refine AList.c 240 rfl rfl rfl (OpJ.move rfl rfl) ?_
                refine AList.g 241 240 rfl rfl rfl rfl rfl rfl rfl [(21, _)] (fun h => And.intro (.inl rfl) (trivial)) (fun h => (OpJ.move rfl rfl)) ?_
                refine AList.g 242 240 rfl rfl rfl rfl rfl rfl rfl [(23, _)] (fun h => And.intro (.inl rfl) (trivial)) (fun h => (OpJ.move rfl rfl)) ?_
                refine AList.g 243 240 rfl rfl rfl rfl rfl rfl rfl [(242, _)] (fun h => And.intro (.inr ⟨_, rfl, h⟩) (trivial)) (fun h => (OpJ.mul rfl rfl rfl (i64ok (by omega)))) ?_
                refine AList.g 244 240 rfl rfl rfl rfl rfl rfl rfl [(241, _), (243, _)] (fun h => And.intro (.inr ⟨_, rfl, h⟩) (And.intro (.inr ⟨_, rfl, h⟩) (trivial))) (fun h => (OpJ.add rfl rfl rfl (i64ok (by omega)))) ?_
                refine AList.g 245 240 rfl rfl rfl rfl rfl rfl rfl [(244, _)] (fun h => And.intro (.inr ⟨_, rfl, h⟩) (trivial)) (fun h => (OpJ.mul rfl rfl rfl (i64ok (by omega)))) ?_
                refine AList.g 246 240 rfl rfl rfl rfl rfl rfl rfl [(6, _)] (fun h => And.intro (.inl rfl) (trivial)) (fun h => (OpJ.fieldAddr rfl rfl fd25_1 rfl)) ?_
                refine AList.g 247 240 rfl rfl rfl rfl rfl rfl rfl [(246, _)] (fun h => And.intro (.inr ⟨_, rfl, h⟩) (trivial)) (fun h => (OpJ.load rfl rfl ty3 rfl)) ?_
                refine AList.g 248 240 rfl rfl rfl rfl rfl rfl rfl [(17, _)] (fun h => And.intro (.inl rfl) (trivial)) (fun h => (OpJ.move rfl rfl)) ?_
                refine AList.g 249 240 rfl rfl rfl rfl rfl rfl rfl [(23, _)] (fun h => And.intro (.inl rfl) (trivial)) (fun h => (OpJ.move rfl rfl)) ?_
                refine AList.g 250 240 rfl rfl rfl rfl rfl rfl rfl [(248, _), (249, _)] (fun h => And.intro (.inr ⟨_, rfl, h⟩) (And.intro (.inr ⟨_, rfl, h⟩) (trivial))) (fun h => (OpJ.add rfl rfl rfl (i64ok (by omega)))) ?_
                refine AList.g 251 240 rfl rfl rfl rfl rfl rfl rfl [(247, _), (250, _)] (fun h => And.intro (.inr ⟨_, rfl, h⟩) (And.intro (.inr ⟨_, rfl, h⟩) (trivial))) (fun h => (OpJ.mul rfl rfl rfl (i64ok (by omega)))) ?_
                refine AList.g 252 240 rfl rfl rfl rfl rfl rfl rfl [(251, _)] (fun h => And.intro (.inr ⟨_, rfl, h⟩) (trivial)) (fun h => (OpJ.mul rfl rfl rfl (i64ok (by omega)))) ?_
                refine AList.g 253 240 rfl rfl rfl rfl rfl rfl rfl [(245, _), (252, _)] (fun h => And.intro (.inr ⟨_, rfl, h⟩) (And.intro (.inr ⟨_, rfl, h⟩) (trivial))) (fun h => (OpJ.gtr rfl rfl rfl)) ?_
                refine AList.c 254 rfl rfl rfl (OpJ.or_ rfl rfl rfl ?_) ?_
                · first | (intro h; rw [h]; rfl) | (intro h; simp_all)
                refine AList.nil ?_
                refine AWp.cond _ rfl (fun hc9 => ?_) (fun hc9 => ?_)
                · skip
                  exfalso
                  simp at hc9
                  omega
                · skip
                  refine AWp.skip ?_
                  refine AWp.region ?_
                  refine AList.c 219 rfl rfl rfl (OpJ.move rfl rfl) ?_
                  refine AList.c 220 rfl rfl rfl (OpJ.add rfl rfl rfl (i64ok ?_)) ?_
                  · decide
                  refine AList.c 22 rfl rfl rfl (OpJ.assign rfl rfl) ?_
                  refine AList.nil ?_
                  refine ARounds.next ?_
                  refine AWp.seq ?_
                  refine AWp.seq ?_
                  refine AWp.region ?_
                  refine AList.c 217 rfl rfl rfl (OpJ.move rfl rfl) ?_
                  refine AList.c 218 rfl rfl rfl (OpJ.lss rfl rfl rfl) ?_
                  refine AList.nil ?_
                  refine AWp.condF rfl ?_
                  refine AWp.exit ?_
                  refine AWp.seq ?_
                  refine AWp.region ?_
                  refine AList.c 255 rfl rfl rfl (OpJ.callP (awake_ok) rfl rfl rfl rfl rf10) ?_
                  refine AList.c 8 rfl rfl rfl (OpJ.assign rfl rfl) ?_
                  refine AList.nil ?_
                  refine AWp.ret ?_
                  refine Fin.oneE rfl rfl ?_
                  rfl
theorem usl_of {x : List PV} (h : TyL [.sl [.leaf (.int .u32)]] x) : ∃ ys : List Int, x = [.is (ys.flatMap y1) ys.length] ∧ ys.length ≤ 9223372036854775807 ∧ ∀ y ∈ ys, 0 ≤ y ∧ y ≤ 4294967295 := by
  obtain ⟨l, e, hl⟩ := sl_of (α := { n : Int // 0 ≤ n ∧ n ≤ 4294967295 }) (f := fun n => y1 n.1) (fun el h => by
    obtain ⟨n, e, hn⟩ := u32_of h
    exact ⟨⟨n, hn⟩, e⟩) h
  refine ⟨l.map (·.1), ?_, by simpa using hl, fun y hy => ?_⟩
  · rw [e, List.flatMap_map, List.length_map]
  · obtain ⟨n, _, rfl⟩ := List.mem_map.1 hy
    exact n.2
theorem sackTrue_law {x0 x1 x2 x3 : List PV} (h0 : TyL [.sl [.leaf (.int .i64), .leaf (.int .i64), .leaf (.int .i64), .leaf (.int .i64), .leaf (.int .i64), .leaf (.int .i64)]] x0) (h1 : TyL [.sl [.leaf (.int .i64), .leaf (.int .i64), .leaf (.int .i64)]] x1) (h2 : TyL [.leaf (.int .i64), .leaf (.int .i64)] x2) (h3 : TyL [.sl [.leaf (.int .u32)]] x3) : Pure Try.prog 5 [argP false x0, argP false x1, argP true x2, argP false x3] (.bool true) := by
  obtain ⟨l, rfl, hl⟩ := sl_of (fun _ => sk_of) h0
  obtain ⟨b, rfl, hb⟩ := sl_of (fun _ => tk_of) h1
  obtain ⟨w, rfl⟩ := two_of h2
  obtain ⟨ys, rfl, hyl, hys⟩ := usl_of h3
  exact SackTrue_ok l b w ys hl hb hys hyl
end Go.Proofs.Ytmcejcidbekpkaa
