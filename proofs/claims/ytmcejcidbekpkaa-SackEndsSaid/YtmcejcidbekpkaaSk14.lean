/-
  Searches; shares.
-/
import Derived.Test.YtmcejcidbekpkaaSkFacts
import Derived.Test.YtmcejcidbekpkaaSkD
import Derived.Test.YtmcejcidbekpkaaSk1
import Derived.Test.YtmcejcidbekpkaaSk2
import Derived.Test.YtmcejcidbekpkaaSk7
import Derived.Test.YtmcejcidbekpkaaSk9
import Derived.Test.YtmcejcidbekpkaaSk10
import Derived.Test.YtmcejcidbekpkaaSk11
import Derived.Test.YtmcejcidbekpkaaSkM
set_option linter.unusedVariables false
set_option maxRecDepth 100000
set_option maxHeartbeats 4000000
set_option linter.unusedSimpArgs false
namespace Go.Proofs.Ytmcejcidbekpkaa
open Go.AF
theorem search_ok (n r : Nat) (fn : Fn) (fi ca : List PV) (p : Nat → Bool) (hn : n ≤ 140737488355328) (hr : r ≤ n) (h1 : ∀ i, i < r → p i = false) (h2 : ∀ i, r ≤ i → i < n → p i = true) (hf : ∀ i, i < n → FPure Try.prog (.func fn fi ca) [.int .i64 ((i : Nat) : Int)] (.bool (p i))) : Pure Try.prog 42 [.int .i64 (n : Int), .func fn fi ca] (.int .i64 (r : Int)) := by
  refine Pure.start (N := 26) Try.func42 rfl rfl (Nat.le_of_ble_eq_true rfl) ?_
  refine AWp.seq ?_
  refine AWp.region ?_
  refine AList.c 4 rfl rfl rfl (OpJ.assign rfl rfl) ?_
  refine AList.nil ?_
  refine AWp.seq ?_
  refine AWp.region ?_
  refine AList.c 8 rfl rfl rfl (OpJ.move rfl rfl) ?_
  refine AList.c 5 rfl rfl rfl (OpJ.assign rfl rfl) ?_
  refine AList.c 6 rfl rfl rfl (OpJ.assign rfl rfl) ?_
  refine AList.nil ?_
  refine AWp.seq ?_
  refine AWp.block ?_
  refine AWp.loopK [5, 6, 7, 9, 10, 11, 12, 13, 14, 15, 16, 17, 18, 19, 20, 21, 22, 23, 24] (fun g => [(5, .p (.int .i64 ((g.1 : Nat) : Int))), (6, .p (.int .i64 ((g.2 : Nat) : Int)))]) (fun g => g.1 ≤ r ∧ r ≤ g.2 ∧ g.2 ≤ n) (fun g => g.2 - g.1) (0, n) ⟨Nat.zero_le _, hr, Nat.le_refl _⟩ (Sub.cons rfl (Sub.cons rfl (Sub.nil))) (fun g hg => ?_)
  obtain ⟨i, j⟩ := g
  obtain ⟨hi, hj, hjn⟩ := hg
  dsimp only at hi hj hjn ⊢
  refine AWp.seq ?_
  refine AWp.seq ?_
  refine AWp.region ?_
  refine AList.c 9 rfl rfl rfl (OpJ.move rfl rfl) ?_
  refine AList.c 10 rfl rfl rfl (OpJ.move rfl rfl) ?_
  refine AList.c 11 rfl rfl rfl (OpJ.lss rfl rfl rfl) ?_
  refine AList.nil ?_
  refine AWp.cond _ rfl (fun hc0 => ?_) (fun hc0 => ?_)
  · skip
    have hij : i < j := by simp at hc0; omega
    have hf0 := hf ((i + j) / 2) (by omega)
    refine AWp.skip ?_
    refine AWp.block ?_
    refine AWp.seq ?_
    refine AWp.region ?_
    refine AList.c 12 rfl rfl rfl (OpJ.move rfl rfl) ?_
    refine AList.c 13 rfl rfl rfl (OpJ.move rfl rfl) ?_
    refine AList.c 14 rfl rfl rfl (OpJ.add rfl rfl rfl (i64ok ?_)) ?_
    · omega
    refine AList.c 15 rfl rfl rfl (OpJ.convInt rfl rfl (by rw [un3]; rfl) un97 (u64ok ?_)) ?_
    · omega
    refine AList.c 16 rfl rfl rfl (OpJ.shr (m := (((i + j) / 2 : Nat) : Int)) rfl rfl rfl (by decide) ?_) ?_
    · refine shr1.trans ?_; omega
    refine AList.c 17 rfl rfl rfl (OpJ.convInt rfl rfl (by rw [un97]; rfl) un3 (i64ok ?_)) ?_
    · omega
    refine AList.c 7 rfl rfl rfl (OpJ.assign rfl rfl) ?_
    refine AList.nil ?_
    refine AWp.seq ?_
    refine AWp.region ?_
    refine AList.c 18 rfl rfl rfl (OpJ.move rfl rfl) ?_
    refine AList.c 19 rfl rfl rfl (OpJ.move rfl rfl) ?_
    refine AList.c 20 rfl rfl rfl (OpJ.callF (hf0) rfl rfl rfl) ?_
    refine AList.c 21 rfl rfl rfl (OpJ.not_ rfl rfl) ?_
    refine AList.nil ?_
    refine AWp.cond _ rfl (fun hc1 => ?_) (fun hc1 => ?_)
    · skip
      have q1 : p ((i + j) / 2) = false := by simpa using hc1
      have q2 : (i + j) / 2 + 1 ≤ r := by rcases Nat.lt_or_ge ((i + j) / 2) r with h | h; { omega }; { have := h2 _ h (by omega); rw [q1] at this; cases this }
      refine AWp.region ?_
      refine AList.c 22 rfl rfl rfl (OpJ.move rfl rfl) ?_
      refine AList.c 23 rfl rfl rfl (OpJ.add rfl rfl rfl (i64ok ?_)) ?_
      · omega
      refine AList.c 5 rfl rfl rfl (OpJ.assign rfl rfl) ?_
      refine AList.nil ?_
      refine ⟨((i + j) / 2 + 1, j), ?_, ?_, ?_⟩
      · exact ⟨q2, hj, hjn⟩
      · dsimp only; omega
      exact To.done [] rfl (by repeat (first | exact Sub.nil | refine Sub.cons rfl ?_)) rfl
    · skip
      have q1 : p ((i + j) / 2) = true := by simpa using hc1
      have q2 : r ≤ (i + j) / 2 := by rcases Nat.lt_or_ge ((i + j) / 2) r with h | h; { have := h1 _ h; rw [q1] at this; cases this }; { omega }
      refine AWp.region ?_
      refine AList.c 24 rfl rfl rfl (OpJ.move rfl rfl) ?_
      refine AList.c 6 rfl rfl rfl (OpJ.assign rfl rfl) ?_
      refine AList.nil ?_
      refine ⟨(i, (i + j) / 2), ?_, ?_, ?_⟩
      · exact ⟨hi, q2, by dsimp only; omega⟩
      · dsimp only; omega
      exact To.done [] rfl (by repeat (first | exact Sub.nil | refine Sub.cons rfl ?_)) rfl
  · skip
    obtain rfl : i = r := by simp at hc0; omega
    refine AWp.exit ?_
    refine AWp.seq ?_
    refine AWp.region ?_
    refine AList.c 25 rfl rfl rfl (OpJ.move rfl rfl) ?_
    refine AList.c 4 rfl rfl rfl (OpJ.assign rfl rfl) ?_
    refine AList.nil ?_
    refine AWp.ret ?_
    refine Fin.oneE rfl rfl ?_
    rfl
theorem beyondB_ok (l : List Sk) (b : List Tk) (n : Int) (hn : 0 ≤ n ∧ n ≤ 1000) (hl : okL l) (hb : okB b) (ht : okT l.length b) : Pure Try.prog 44 [mapP (PV.int .i64) gpS (buildM l b b.length), .int .i64 n] (.agg [.int .i64 (bLo l b n), .int .i64 (bHi l b n)]) := by
  have h := beyond_ok (buildM l b b.length) n hn (buildM_ok hl hb ht)
  rw [sum_lo ht, sum_hi ht] at h
  exact h
theorem lacksB_ok (l : List Sk) (b : List Tk) (n : Int) (hn : 0 ≤ n ∧ n ≤ 1000) (hl : okL l) (hb : okB b) (ht : okT l.length b) : Pure Try.prog 48 [mapP (PV.int .i64) gpS (buildM l b b.length), .int .i64 n] (.agg [.int .i64 (kLo l b n), .int .i64 (kHi l b n)]) := by
  have h := lacks_ok (buildM l b b.length) n hn (buildM_ok hl hb ht)
  rw [sum_lo ht, sum_hi ht, sLo_lack hl hb, sHi_lack hl hb] at h
  exact h
theorem share1_ok (l : List Sk) (b : List Tk) (n : Int) (hn : 0 ≤ n ∧ n ≤ 1000) (hl : okL l) (hb : okB b) (ht : okT l.length b) : Pure Try.prog 43 [.int .i64 n, .ip [mapP (PV.int .i64) gpS (buildM l b b.length)] 0] (.bool (decide (bLo l b n < 0))) := by
  refine Pure.start (N := 9) Try.func43 rfl rfl (Nat.le_of_ble_eq_true rfl) ?_
  refine AWp.seq ?_
  refine AWp.region ?_
  refine AList.c 3 rfl rfl rfl (OpJ.assign rfl rfl) ?_
  refine AList.nil ?_
  refine AWp.seq ?_
  refine AWp.region ?_
  refine AList.c 4 rfl rfl rfl (OpJ.load rfl rfl ty65 rfl) ?_
  refine AList.c 5 rfl rfl rfl (OpJ.move rfl rfl) ?_
  refine AList.c 6 rfl rfl rfl (OpJ.callP (beyondB_ok l b n hn hl hb ht) rfl rfl rfl rfl rf44) ?_
  refine AList.c 7 rfl rfl rfl (OpJ.field rfl rfl fv25_0 rfl) ?_
  refine AList.c 8 rfl rfl rfl (OpJ.lss rfl rfl rfl) ?_
  refine AList.c 3 rfl rfl rfl (OpJ.assign rfl rfl) ?_
  refine AList.nil ?_
  refine AWp.ret ?_
  exact Fin.one rfl (rfl)
theorem share2_ok (l : List Sk) (b : List Tk) (n : Int) (hn : 0 ≤ n ∧ n ≤ 1000) (hl : okL l) (hb : okB b) (ht : okT l.length b) : Pure Try.prog 45 [.int .i64 n, .ip [mapP (PV.int .i64) gpS (buildM l b b.length)] 0] (.bool (decide (bHi l b n ≤ 0))) := by
  refine Pure.start (N := 9) Try.func45 rfl rfl (Nat.le_of_ble_eq_true rfl) ?_
  refine AWp.seq ?_
  refine AWp.region ?_
  refine AList.c 3 rfl rfl rfl (OpJ.assign rfl rfl) ?_
  refine AList.nil ?_
  refine AWp.seq ?_
  refine AWp.region ?_
  refine AList.c 4 rfl rfl rfl (OpJ.load rfl rfl ty65 rfl) ?_
  refine AList.c 5 rfl rfl rfl (OpJ.move rfl rfl) ?_
  refine AList.c 6 rfl rfl rfl (OpJ.callP (beyondB_ok l b n hn hl hb ht) rfl rfl rfl rfl rf44) ?_
  refine AList.c 7 rfl rfl rfl (OpJ.field rfl rfl fv25_1 rfl) ?_
  refine AList.c 8 rfl rfl rfl (OpJ.leq rfl rfl rfl) ?_
  refine AList.c 3 rfl rfl rfl (OpJ.assign rfl rfl) ?_
  refine AList.nil ?_
  refine AWp.ret ?_
  exact Fin.one rfl (rfl)
theorem share_ok (l : List Sk) (b : List Tk) (hl : l.length ≤ bigN) (hb : b.length ≤ bigN) : Pure Try.prog 13 [sacksV l, takesV b] (.tuple (shareR l b)) := by
  refine Pure.start (N := 30) Try.func13 rfl rfl (Nat.le_of_ble_eq_true rfl) ?_
  refine AWp.seq ?_
  refine AWp.region ?_
  refine AList.c 4 rfl rfl rfl (OpJ.allocOwn rfl zr25 rfl) ?_
  refine AList.c 5 rfl rfl rfl (OpJ.assign rfl rfl) ?_
  refine AList.nil ?_
  refine AWp.seq ?_
  refine AWp.seq ?_
  refine AWp.region ?_
  refine AList.c 9 rfl rfl rfl (OpJ.move rfl rfl) ?_
  refine AList.c 10 rfl rfl rfl (OpJ.callP (areSacks_ok _ ?_) rfl rfl rfl rfl rf30) ?_
  · assumption
  refine AList.c 11 rfl rfl rfl (OpJ.not_ rfl rfl) ?_
  refine AList.c 12 rfl rfl rfl (OpJ.move rfl rfl) ?_
  refine AList.g 13 12 rfl rfl rfl rfl rfl rfl rfl [(0, _)] (fun h => And.intro (.inl rfl) (trivial)) (fun h => (OpJ.move rfl rfl)) ?_
  refine AList.g 14 12 rfl rfl rfl rfl rfl rfl rfl [(1, _)] (fun h => And.intro (.inl rfl) (trivial)) (fun h => (OpJ.move rfl rfl)) ?_
  refine AList.g 15 12 rfl rfl rfl rfl rfl rfl rfl [(13, _), (14, _)] (fun h => And.intro (.inr ⟨_, rfl, h⟩) (And.intro (.inr ⟨_, rfl, h⟩) (trivial))) (fun h => (OpJ.callP (isBatch_ok _ _ ?_ ?_) rfl rfl rfl rfl rf31)) ?_
  · assumption
  · assumption
  refine AList.g 16 12 rfl rfl rfl rfl rfl rfl rfl [(15, _)] (fun h => And.intro (.inr ⟨_, rfl, h⟩) (trivial)) (fun h => (OpJ.not_ rfl rfl)) ?_
  refine AList.c 17 rfl rfl rfl (OpJ.or_ rfl rfl rfl ?_) ?_
  · first | (intro h; rw [h]; rfl) | (intro h; simp_all)
  refine AList.nil ?_
  refine AWp.cond _ rfl (fun hc0 => ?_) (fun hc0 => ?_)
  · skip
    refine AWp.seq ?_
    refine AWp.region ?_
    refine AList.c 18 rfl rfl rfl (OpJ.build rfl bd25 rfl rfl) ?_
    refine AList.c0 rfl rfl (OpJ.store rfl rfl rfl rfl rfl ty25 rfl rfl) ?_
    refine AList.c 5 rfl rfl rfl (OpJ.assign rfl rfl) ?_
    refine AList.nil ?_
    refine AWp.ret ?_
    have hv : validB l b = false := by unfold validB; simp at hc0; rcases hc0 with h | h <;> simp [h]
    refine Fin.manyE (xs := [.agg [.int .i64 0, .int .i64 0], .int .i64 1]) rfl (⟨_, _, rfl, ⟨_, _, _, rfl, ty25, rfl⟩, ⟨_, _, rfl, rfl, rfl⟩⟩) rfl ?_
    simp [shareR, hv]
  · skip
    have hv : validB l b = true := by unfold validB; simp at hc0; simp [hc0]
    have okl : okL l := okL_of (by unfold validB at hv; simp at hv; exact hv.1)
    have okb := okB_of (n := l.length) (b := b) (by unfold validB at hv; simp at hv; exact hv.2)
    obtain ⟨r, q, cr, cq, er, eq⟩ := share_cuts okl okb.1
    refine AWp.skip ?_
    refine AWp.seq ?_
    refine AWp.region ?_
    refine AList.c 19 rfl rfl rfl (OpJ.move rfl rfl) ?_
    refine AList.c 20 rfl rfl rfl (OpJ.move rfl rfl) ?_
    refine AList.c 21 rfl rfl rfl (OpJ.callP (newBatch_ok l b hl okb.1 okb.2) rfl rfl rfl rfl rf32) ?_
    refine AList.c 6 rfl rfl rfl (OpJ.allocOwn rfl zr65 rfl) ?_
    refine AList.c0 rfl rfl (OpJ.store rfl rfl rfl rfl rfl ty65 rfl rfl) ?_
    refine AList.nil ?_
    refine AWp.seq ?_
    refine AWp.region ?_
    refine AList.freeze 1 rfl rfl ?_
    refine AList.c 22 rfl rfl rfl (OpJ.makeFunc rfl rfl rfl) ?_
    refine AList.c 23 rfl rfl rfl (OpJ.callP (search_ok 1001 r (.func 43) [] [.ip [mapP (PV.int .i64) gpS (buildM l b b.length)] 0] _ (by decide) cr.1 cr.2.1 cr.2.2 (fun i hi => ⟨43, [.int .i64 (i : Int), .ip [mapP (PV.int .i64) gpS (buildM l b b.length)] 0], rfl, rf43, share1_ok l b _ (by omega) okl okb.1 okb.2⟩)) rfl rfl rfl rfl rf42) ?_
    refine AList.c 7 rfl rfl rfl (OpJ.assign rfl rfl) ?_
    refine AList.nil ?_
    refine AWp.seq ?_
    refine AWp.region ?_
    refine AList.c 24 rfl rfl rfl (OpJ.makeFunc rfl rfl rfl) ?_
    refine AList.c 25 rfl rfl rfl (OpJ.callP (search_ok 1000 q (.func 45) [] [.ip [mapP (PV.int .i64) gpS (buildM l b b.length)] 0] _ (by decide) cq.1 cq.2.1 cq.2.2 (fun i hi => ⟨45, [.int .i64 (i : Int), .ip [mapP (PV.int .i64) gpS (buildM l b b.length)] 0], rfl, rf45, share2_ok l b _ (by omega) okl okb.1 okb.2⟩)) rfl rfl rfl rfl rf42) ?_
    refine AList.c 8 rfl rfl rfl (OpJ.assign rfl rfl) ?_
    refine AList.nil ?_
    refine AWp.seq ?_
    refine AWp.region ?_
    refine AList.c 26 rfl rfl rfl (OpJ.move rfl rfl) ?_
    refine AList.c 27 rfl rfl rfl (OpJ.sub_ rfl rfl rfl (i64ok ?_)) ?_
    · have := cr.1; omega
    refine AList.c 28 rfl rfl rfl (OpJ.move rfl rfl) ?_
    refine AList.c 29 rfl rfl rfl (OpJ.build rfl bd25 rfl rfl) ?_
    refine AList.c0 rfl rfl (OpJ.store rfl rfl rfl rfl rfl ty25 rfl rfl) ?_
    refine AList.c 5 rfl rfl rfl (OpJ.assign rfl rfl) ?_
    refine AList.nil ?_
    refine AWp.ret ?_
    refine Fin.manyE (xs := [.agg [.int .i64 ((r : Int) - 1), .int .i64 (q : Int)], .int .i64 0]) rfl (⟨_, _, rfl, ⟨_, _, _, rfl, ty25, rfl⟩, ⟨_, _, rfl, rfl, rfl⟩⟩) rfl ?_
    simp [shareR, hv, er, eq]
theorem rShare_ok (l : List Sk) (b : List Tk) (hl : l.length ≤ bigN) (hb : b.length ≤ bigN) : Pure Try.prog 14 [sacksV l, takesV b] (.tuple (shareR l b)) := by
  refine Pure.start (N := 44) Try.func14 rfl rfl (Nat.le_of_ble_eq_true rfl) ?_
  refine AWp.seq ?_
  refine AWp.region ?_
  refine AList.c 4 rfl rfl rfl (OpJ.allocOwn rfl zr25 rfl) ?_
  refine AList.c 5 rfl rfl rfl (OpJ.assign rfl rfl) ?_
  refine AList.nil ?_
  refine AWp.seq ?_
  refine AWp.seq ?_
  refine AWp.region ?_
  refine AList.c 10 rfl rfl rfl (OpJ.move rfl rfl) ?_
  refine AList.c 11 rfl rfl rfl (OpJ.callP (rSacks_ok _ ?_) rfl rfl rfl rfl rf19) ?_
  · assumption
  refine AList.c 12 rfl rfl rfl (OpJ.not_ rfl rfl) ?_
  refine AList.c 13 rfl rfl rfl (OpJ.move rfl rfl) ?_
  refine AList.g 14 13 rfl rfl rfl rfl rfl rfl rfl [(0, _)] (fun h => And.intro (.inl rfl) (trivial)) (fun h => (OpJ.move rfl rfl)) ?_
  refine AList.g 15 13 rfl rfl rfl rfl rfl rfl rfl [(1, _)] (fun h => And.intro (.inl rfl) (trivial)) (fun h => (OpJ.move rfl rfl)) ?_
  refine AList.g 16 13 rfl rfl rfl rfl rfl rfl rfl [(14, _), (15, _)] (fun h => And.intro (.inr ⟨_, rfl, h⟩) (And.intro (.inr ⟨_, rfl, h⟩) (trivial))) (fun h => (OpJ.callP (rBatch_ok _ _ ?_ ?_) rfl rfl rfl rfl rf20)) ?_
  · assumption
  · assumption
  refine AList.g 17 13 rfl rfl rfl rfl rfl rfl rfl [(16, _)] (fun h => And.intro (.inr ⟨_, rfl, h⟩) (trivial)) (fun h => (OpJ.not_ rfl rfl)) ?_
  refine AList.c 18 rfl rfl rfl (OpJ.or_ rfl rfl rfl ?_) ?_
  · first | (intro h; rw [h]; rfl) | (intro h; simp_all)
  refine AList.nil ?_
  refine AWp.cond _ rfl (fun hc0 => ?_) (fun hc0 => ?_)
  · skip
    refine AWp.seq ?_
    refine AWp.region ?_
    refine AList.c 19 rfl rfl rfl (OpJ.build rfl bd25 rfl rfl) ?_
    refine AList.c0 rfl rfl (OpJ.store rfl rfl rfl rfl rfl ty25 rfl rfl) ?_
    refine AList.c 5 rfl rfl rfl (OpJ.assign rfl rfl) ?_
    refine AList.nil ?_
    refine AWp.ret ?_
    have hv : validB l b = false := by unfold validB; simp at hc0; rcases hc0 with h | h <;> simp [h]
    refine Fin.manyE (xs := [.agg [.int .i64 0, .int .i64 0], .int .i64 1]) rfl (⟨_, _, rfl, ⟨_, _, _, rfl, ty25, rfl⟩, ⟨_, _, rfl, rfl, rfl⟩⟩) rfl ?_
    simp [shareR, hv]
  · skip
    have hv : validB l b = true := by unfold validB; simp at hc0; simp [hc0]
    have okl : okL l := okL_of (by unfold validB at hv; simp at hv; exact hv.1)
    have okb := okB_of (n := l.length) (b := b) (by unfold validB at hv; simp at hv; exact hv.2)
    refine AWp.skip ?_
    refine AWp.seq ?_
    refine AWp.region ?_
    refine AList.c 20 rfl rfl rfl (OpJ.build rfl bd25 rfl rfl) ?_
    refine AList.c 6 rfl rfl rfl (OpJ.allocOwn rfl zr25 rfl) ?_
    refine AList.c0 rfl rfl (OpJ.store rfl rfl rfl rfl rfl ty25 rfl rfl) ?_
    refine AList.nil ?_
    refine AWp.seq ?_
    refine AWp.seq ?_
    refine AWp.region ?_
    refine AList.c 7 rfl rfl rfl (OpJ.assign rfl rfl) ?_
    refine AList.nil ?_
    refine AWp.block ?_
    refine AWp.loopH [7, 8, 9, 21, 22, 23, 24, 25, 26, 27, 28, 29, 30, 31, 32, 33, 34, 35, 36, 37, 38, 39, 40, 41, 42] (fun g => [(7, .p (.int .i64 ((g : Nat) : Int)))]) (fun g => [.cells [.p (.int .i64 (0)), .p (.int .i64 (0))] 25, .cells [.p (.int .i64 (scLo l b g)), .p (.int .i64 (scHi l b g))] 25]) (fun g => g ≤ 1001) (fun g => 1001 - g) 0 (Nat.zero_le _) (To.sub (Sub.chd (Sub.cons rfl Sub.nil))) (fun s hg => ?_)
    refine AWp.seq ?_
    refine AWp.seq ?_
    refine AWp.region ?_
    refine AList.c 21 rfl rfl rfl (OpJ.move rfl rfl) ?_
    refine AList.c 22 rfl rfl rfl (OpJ.leq rfl rfl rfl) ?_
    refine AList.nil ?_
    refine AWp.cond _ rfl (fun hc1 => ?_) (fun hc1 => ?_)
    · skip
      have hs1 : s ≤ 1000 := by simp at hc1; omega
      refine AWp.skip ?_
      refine AWp.seq ?_
      refine AWp.block ?_
      refine AWp.seq ?_
      refine AWp.region ?_
      refine AList.c 26 rfl rfl rfl (OpJ.move rfl rfl) ?_
      refine AList.c 27 rfl rfl rfl (OpJ.move rfl rfl) ?_
      refine AList.c 28 rfl rfl rfl (OpJ.move rfl rfl) ?_
      refine AList.c 29 rfl rfl rfl (OpJ.callP (rbeyond_ok l b (s : Int) okl okb.1 (by omega)) rfl rfl rfl rfl rf46) ?_
      refine AList.c 25 rfl rfl rfl (OpJ.move rfl rfl) ?_
      refine AList.c 30 rfl rfl rfl (OpJ.extract rfl rfl rfl) ?_
      refine AList.c 31 rfl rfl rfl (OpJ.extract rfl rfl rfl) ?_
      refine AList.c 8 rfl rfl rfl (OpJ.assign rfl rfl) ?_
      refine AList.c 9 rfl rfl rfl (OpJ.assign rfl rfl) ?_
      refine AList.nil ?_
      refine AWp.seq ?_
      refine AWp.seq ?_
      refine AWp.region ?_
      refine AList.c 32 rfl rfl rfl (OpJ.move rfl rfl) ?_
      refine AList.c 33 rfl rfl rfl (OpJ.geq rfl rfl rfl) ?_
      refine AList.nil ?_
      refine AWp.cond _ rfl (fun hc2 => ?_) (fun hc2 => ?_)
      · skip
        refine AWp.region ?_
        refine AList.c 34 rfl rfl rfl (OpJ.move rfl rfl) ?_
        refine AList.c 35 rfl rfl rfl (OpJ.fieldAddr rfl rfl fd25_0 rfl) ?_
        refine AList.c0 rfl rfl (OpJ.store rfl rfl rfl rfl rfl ty3 rfl rfl) ?_
        refine AList.nil ?_
        refine AWp.seq ?_
        refine AWp.region ?_
        refine AList.c 36 rfl rfl rfl (OpJ.move rfl rfl) ?_
        refine AList.c 37 rfl rfl rfl (OpJ.leq rfl rfl rfl) ?_
        refine AList.nil ?_
        refine AWp.cond _ rfl (fun hc3 => ?_) (fun hc3 => ?_)
        · skip
          refine AWp.region ?_
          refine AList.c 38 rfl rfl rfl (OpJ.fieldAddr rfl rfl fd25_1 rfl) ?_
          refine AList.c 39 rfl rfl rfl (OpJ.load rfl rfl ty3 rfl) ?_
          refine AList.c 40 rfl rfl rfl (OpJ.move rfl rfl) ?_
          refine AList.c 41 rfl rfl rfl (OpJ.min2 rfl rfl rfl) ?_
          refine AList.c 42 rfl rfl rfl (OpJ.fieldAddr rfl rfl fd25_1 rfl) ?_
          refine AList.c0 rfl rfl (OpJ.store rfl rfl rfl rfl rfl ty3 rfl rfl) ?_
          refine AList.nil ?_
          refine AWp.region ?_
          refine AList.c 23 rfl rfl rfl (OpJ.move rfl rfl) ?_
          refine AList.c 24 rfl rfl rfl (OpJ.add rfl rfl rfl (i64ok ?_)) ?_
          · omega
          refine AList.c 7 rfl rfl rfl (OpJ.assign rfl rfl) ?_
          refine AList.nil ?_
          refine ⟨s + 1, ?_, ?_, ?_⟩
          · omega
          · omega
          refine To.done [0, 1] rfl (by repeat (first | exact Sub.nil | refine Sub.cons rfl ?_)) ?_
          simp only [decide_eq_true_eq, decide_eq_false_iff_not] at hc2 hc3
          have c2 : (0 ≤ bLo l b (s : Int)) ↔ _ := Iff.rfl
          unfold bLo at c2
          simp only [scLo, scHi, bLo, bHi, hc2, hc3, if_true, if_false]
          rfl
        · skip
          refine AWp.skip ?_
          refine AWp.region ?_
          refine AList.c 23 rfl rfl rfl (OpJ.move rfl rfl) ?_
          refine AList.c 24 rfl rfl rfl (OpJ.add rfl rfl rfl (i64ok ?_)) ?_
          · omega
          refine AList.c 7 rfl rfl rfl (OpJ.assign rfl rfl) ?_
          refine AList.nil ?_
          refine ⟨s + 1, ?_, ?_, ?_⟩
          · omega
          · omega
          refine To.done [0, 1] rfl (by repeat (first | exact Sub.nil | refine Sub.cons rfl ?_)) ?_
          simp only [decide_eq_true_eq, decide_eq_false_iff_not] at hc2 hc3
          have c2 : (0 ≤ bLo l b (s : Int)) ↔ _ := Iff.rfl
          unfold bLo at c2
          simp only [scLo, scHi, bLo, bHi, hc2, hc3, if_true, if_false]
          rfl
      · skip
        refine AWp.skip ?_
        refine AWp.seq ?_
        refine AWp.region ?_
        refine AList.c 36 rfl rfl rfl (OpJ.move rfl rfl) ?_
        refine AList.c 37 rfl rfl rfl (OpJ.leq rfl rfl rfl) ?_
        refine AList.nil ?_
        refine AWp.cond _ rfl (fun hc3 => ?_) (fun hc3 => ?_)
        · skip
          refine AWp.region ?_
          refine AList.c 38 rfl rfl rfl (OpJ.fieldAddr rfl rfl fd25_1 rfl) ?_
          refine AList.c 39 rfl rfl rfl (OpJ.load rfl rfl ty3 rfl) ?_
          refine AList.c 40 rfl rfl rfl (OpJ.move rfl rfl) ?_
          refine AList.c 41 rfl rfl rfl (OpJ.min2 rfl rfl rfl) ?_
          refine AList.c 42 rfl rfl rfl (OpJ.fieldAddr rfl rfl fd25_1 rfl) ?_
          refine AList.c0 rfl rfl (OpJ.store rfl rfl rfl rfl rfl ty3 rfl rfl) ?_
          refine AList.nil ?_
          refine AWp.region ?_
          refine AList.c 23 rfl rfl rfl (OpJ.move rfl rfl) ?_
          refine AList.c 24 rfl rfl rfl (OpJ.add rfl rfl rfl (i64ok ?_)) ?_
          · omega
          refine AList.c 7 rfl rfl rfl (OpJ.assign rfl rfl) ?_
          refine AList.nil ?_
          refine ⟨s + 1, ?_, ?_, ?_⟩
          · omega
          · omega
          refine To.done [0, 1] rfl (by repeat (first | exact Sub.nil | refine Sub.cons rfl ?_)) ?_
          simp only [decide_eq_true_eq, decide_eq_false_iff_not] at hc2 hc3
          have c2 : (0 ≤ bLo l b (s : Int)) ↔ _ := Iff.rfl
          unfold bLo at c2
          simp only [scLo, scHi, bLo, bHi, hc2, hc3, if_true, if_false]
          rfl
        · skip
          refine AWp.skip ?_
          refine AWp.region ?_
          refine AList.c 23 rfl rfl rfl (OpJ.move rfl rfl) ?_
          refine AList.c 24 rfl rfl rfl (OpJ.add rfl rfl rfl (i64ok ?_)) ?_
          · omega
          refine AList.c 7 rfl rfl rfl (OpJ.assign rfl rfl) ?_
          refine AList.nil ?_
          refine ⟨s + 1, ?_, ?_, ?_⟩
          · omega
          · omega
          refine To.done [0, 1] rfl (by repeat (first | exact Sub.nil | refine Sub.cons rfl ?_)) ?_
          simp only [decide_eq_true_eq, decide_eq_false_iff_not] at hc2 hc3
          have c2 : (0 ≤ bLo l b (s : Int)) ↔ _ := Iff.rfl
          unfold bLo at c2
          simp only [scLo, scHi, bLo, bHi, hc2, hc3, if_true, if_false]
          rfl
    · skip
      obtain rfl : s = 1001 := by simp at hc1; omega
      refine AWp.exit ?_
      refine AWp.seq ?_
      refine AWp.region ?_
      refine AList.c 43 rfl rfl rfl (OpJ.load rfl rfl ty25 rfl) ?_
      refine AList.c0 rfl rfl (OpJ.store rfl rfl rfl rfl rfl ty25 rfl rfl) ?_
      refine AList.c 5 rfl rfl rfl (OpJ.assign rfl rfl) ?_
      refine AList.nil ?_
      refine AWp.ret ?_
      refine Fin.manyE (xs := [.agg [.int .i64 (scLo l b 1001), .int .i64 (scHi l b 1001)], .int .i64 0]) rfl (⟨_, _, rfl, ⟨_, _, _, rfl, ty25, rfl⟩, ⟨_, _, rfl, rfl, rfl⟩⟩) rfl ?_
      simp [shareR, hv]
end Go.Proofs.Ytmcejcidbekpkaa
