/-
  The sets, one after the other.
  The sets as a slice.
  What lacks most.
  The greatest number that can be.
  How many boxes, in the text.
  How boxes are filled, in the other text.
  Rows that are the same; how many pencils of a pile are needed, in the other text.
  What the searches of Fill and Use ask.
  How boxes are filled.
-/
import Derived.Test.YtbnemnhmejmeeaaGreatDoorXqF
import Derived.Test.YtbnemnhmejmeeaaGreatDoorXqA
import Derived.Test.YtbnemnhmejmeeaaGreatDoorXqP
import Derived.Test.YtbnemnhmejmeeaaGreatDoorFaD
section
set_option linter.unusedVariables false
set_option maxRecDepth 100000
set_option maxHeartbeats 4000000
set_option linter.unusedSimpArgs false
namespace Go.Proofs.YtbnemnhmejmeeaaGreatDoor.Bx
open Go.AF
theorem setsL_at (n i : Nat) (h : i < allS n) : ((setsL n).map fun k => [V.p (.int .i64 ((k : Nat) : Int))])[i]? = some [V.p (.int .i64 ((i + 1 : Nat) : Int))] := by
  have h1 : i < (setsL n).length := by rw [setsL_length]; exact h
  rw [List.getElem?_map, List.getElem?_eq_getElem h1, setsL_get]; rfl
theorem sets_seq (n : Nat) (hn : n ≤ 8) : ASeq Tryz.prog 135 (fun y => [y, .p (.ip [.int .i64 (n : Int)] 0)]) ((setsL n).map fun k => [V.p (.int .i64 ((k : Nat) : Int))]) := by
  intro l κ nn inv fin hκ hnn hfin hb h0 hi0
  have hp := pow8 hn
  have hp1 := pow_pos' n
  have hA : allS n = 2 ^ n - 1 := rfl
  refine ACallsK.of_body (N := 15) Tryz.func135 rfl rfl (Nat.le_of_ble_eq_true rfl) ?_
  refine AWp.seq ?_
  refine AWp.region ?_
  refine AList.c 3 rfl rfl rfl (OpJ.assign rfl rfl) ?_
  refine AList.nil ?_
  refine AWp.block ?_
  refine AWp.loopH [3, 4, 5, 6, 7, 8, 9, 10, 11, 12, 13, 14] (fun g => [(3, .p (.int .i64 ((g.1 + 1 : Nat) : Int)))]) (fun g => g.2) (fun g => g.1 ≤ allS n ∧ inv g.1 g.2) (fun g => allS n - g.1) (0, h0) ⟨Nat.zero_le _, hi0⟩ (To.sub (Sub.chd (Sub.cons rfl (Sub.nil)))) (fun g hg => ?_)
  obtain ⟨i, hcur⟩ := g
  obtain ⟨hle, hinv⟩ := hg
  dsimp only at hle hinv ⊢
  refine AWp.seq ?_
  refine AWp.seq ?_
  refine AWp.region ?_
  refine AList.c 4 rfl rfl rfl (OpJ.move rfl rfl) ?_
  refine AList.c 5 rfl rfl rfl (OpJ.load rfl rfl ty3 rfl) ?_
  refine AList.c 6 rfl rfl rfl (OpJ.shlN 1 n rfl rfl rfl (by show _ ≤ (64 : Nat); omega) (show ((1 * 2 ^ n : Nat) : Int) ≤ 9223372036854775807 by omega)) ?_
  refine AList.c 7 rfl rfl rfl (OpJ.lss rfl rfl rfl) ?_
  refine AList.c 8 rfl rfl rfl (OpJ.move rfl rfl) ?_
  refine AList.g 9 8 rfl rfl rfl rfl rfl rfl rfl [(0, _)] (fun h => And.intro (.inl rfl) (trivial)) (fun h => (OpJ.move rfl rfl)) ?_
  refine AList.g 10 8 rfl rfl rfl rfl rfl rfl rfl [(3, _)] (fun h => And.intro (.inl rfl) (trivial)) (fun h => (OpJ.move rfl rfl)) ?_
  refine AList.yieldG 11 8 rfl rfl rfl rfl rfl rfl rfl rfl [(9, _), (10, _)] (fun h => And.intro (.inr ⟨_, rfl, h⟩) (And.intro (.inr ⟨_, rfl, h⟩) trivial)) rfl rfl (fun h => hb _ _ _ hinv (setsL_at n i (by have h3 := of_decide_eq_true (eq_of_beq h); omega))) ?_
  intro b2 h2 hq1 hq2
  refine AList.c 12 rfl rfl rfl (OpJ.and_ rfl rfl rfl ?_) ?_
  · first | (intro h; rw [h]; rfl) | (intro h; simp_all)
  refine AList.nil ?_
  refine AWp.cond _ rfl (fun hc0 => ?_) (fun hc0 => ?_)
  · skip
    rw [Bool.and_eq_true] at hc0
    have h3 := of_decide_eq_true hc0.1
    have hq : inv (i + 1) h2 := by
      have h4 := hq1 (by rw [hc0.1]; rfl)
      rwa [if_pos hc0.2] at h4
    refine AWp.skip ?_
    refine AWp.seq ?_
    refine AWp.block ?_
    refine AWp.skip ?_
    refine AWp.region ?_
    refine AList.c 13 rfl rfl rfl (OpJ.move rfl rfl) ?_
    refine AList.c 14 rfl rfl rfl (OpJ.add rfl rfl rfl (i64ok ?_)) ?_
    · omega
    refine AList.c 3 rfl rfl rfl (OpJ.assign rfl rfl) ?_
    refine AList.nil ?_
    refine ⟨(i + 1, h2), ?_, ?_, ?_⟩
    · exact ⟨by dsimp only; omega, hq⟩
    · show allS n - (i + 1) < allS n - i
      omega
    exact To.sub (by repeat (first | exact Sub.nil | refine Sub.cons rfl ?_))
  · skip
    have hend : inv ((setsL n).map fun k => [V.p (.int .i64 ((k : Nat) : Int))]).length h2 ∨ fin h2 := by
      cases e : decide (((i + 1 : Nat) : Int) < ((1 * 2 ^ n : Nat) : Int)) with
      | true =>
        have h4 := hq1 (by rw [e]; rfl)
        have hb2 : b2 = false := by rw [e] at hc0; exact hc0
        rw [if_neg (by rw [hb2]; decide)] at h4
        exact .inr h4
      | false =>
        have h3 := of_decide_eq_false e
        rw [hq2 (by rw [e]; rfl), List.length_map, setsL_length]
        obtain rfl : i = allS n := by omega
        exact .inl hinv
    refine AWp.exit ?_
    exact ⟨.inl rfl, _, resV.none_ rfl, hend⟩
theorem sets_ok (n : Nat) : Pure Tryz.prog 116 [.int .i64 (n : Int)] (.func (.func 135) [] [.ip [.int .i64 (n : Int)] 0]) := by
  refine Pure.start (N := 4) Tryz.func116 rfl rfl (Nat.le_of_ble_eq_true rfl) ?_
  refine AWp.seq ?_
  refine AWp.region ?_
  refine AList.c 1 rfl rfl rfl (OpJ.boxImm rfl rfl rfl) ?_
  refine AList.c 2 rfl rfl rfl (OpJ.assign rfl rfl) ?_
  refine AList.nil ?_
  refine AWp.seq ?_
  refine AWp.region ?_
  refine AList.c 3 rfl rfl rfl (OpJ.makeFunc rfl rfl rfl) ?_
  refine AList.c 2 rfl rfl rfl (OpJ.assign rfl rfl) ?_
  refine AList.nil ?_
  refine AWp.ret ?_
  exact Fin.one rfl (rfl)
end Go.Proofs.YtbnemnhmejmeeaaGreatDoor.Bx
end

section
set_option linter.unusedVariables false
set_option maxRecDepth 100000
set_option maxHeartbeats 4000000
set_option linter.unusedSimpArgs false
namespace Go.Proofs.YtbnemnhmejmeeaaGreatDoor.Bx
open Go.AF
theorem appendSeq_ok (n : Nat) (h1 : 1 ≤ n) (hn : n ≤ 8) : Pure Tryz.prog 134 [.nilSlice, .func (.func 135) [] [.ip [.int .i64 (n : Int)] 0]] (setsV n) := by
  have hp := pow8 hn
  have hp1 : 2 ^ 1 ≤ 2 ^ n := Nat.pow_le_pow_right (by omega) h1
  have hA : allS n = 2 ^ n - 1 := rfl
  have eA := setsL_length n
  have hpos : 0 < (setsL n).length := by omega
  refine Pure.start (N := 13) Tryz.func134 rfl rfl (Nat.le_of_ble_eq_true rfl) ?_
  refine AWp.seq ?_
  refine AWp.region ?_
  refine AList.c 2 rfl rfl rfl (OpJ.boxOwn rfl rfl rfl) ?_
  refine AList.c 4 rfl rfl rfl (OpJ.assign rfl rfl) ?_
  refine AList.nil ?_
  refine AWp.seq ?_
  refine AWp.seq ?_
  refine AWp.region ?_
  refine AList.c 6 rfl rfl rfl (OpJ.move rfl rfl) ?_
  refine AList.nil ?_
  refine AWp.block ?_
  refine AWp.to To.pad ?_
  refine AWp.rangeFunc 0 rfl (fun _ => rfl) rf135 (sets_seq n hn) (Nat.le_refl _) (Nat.zero_le _) (fun _ h => by cases h) (fun x hx => by simp at hx; obtain ⟨j, _, rfl⟩ := hx; rfl) rfl (fun k h => h = [.cells [accV 1 k] 193, accB (((((setsL n).take k)).flatMap sn).map .p) 113 k]) (fun c h => False) (fun _ _ h => by rw [h]; rfl) (fun _ _ h => h.elim) rfl ?_ ?_ ?_
  · skip
    intro l tmps k h x hJ hx
    subst hJ
    have hk : k < (setsL n).length := by have := (List.getElem?_eq_some_iff.1 hx).1; simpa using this
    obtain rfl : x = [.p (.int .i64 (((setsL n)[k] : Nat) : Int))] := by rw [List.getElem?_map, List.getElem?_eq_getElem hk] at hx; simpa using hx.symm
    refine AWp.region ?_
    refine AList.c 5 rfl rfl rfl (OpJ.assign rfl rfl) ?_
    refine AList.nil ?_
    refine ⟨rfl, rfl, ?_⟩
    refine AWp.block ?_
    refine AWp.region ?_
    refine AList.c 8 rfl rfl rfl (OpJ.load rfl rfl ty193 rfl) ?_
    refine AList.c 9 rfl rfl rfl (OpJ.move rfl rfl) ?_
    refine AList.c 10 rfl rfl rfl (OpJ.buildImm rfl slz193 (by decide) rfl rfl rfl) ?_
    refine AList.c 11 rfl rfl rfl (OpJ.appendAcc rfl rfl rfl slz193 sl193 rfl ?_ rfl (by decide) rfl by113 (by decide) ?_) ?_
    · rw [List.length_map, flat_len (c := 1) (fun _ => rfl), List.length_take]; show min _ _ * 1 = _ * 1; omega
    · omega
    refine AList.c0 rfl rfl (OpJ.store rfl rfl rfl rfl rfl ty193 rfl rfl) ?_
    refine AList.nil ?_
    refine ⟨_, rfl, To.done [0, 3, 2] rfl Sub.nil ?_⟩
    show [Blk.cells [V.row 1 (k + 1)] 193, Blk.row (renL _ (_ ++ _)) _, _] = _
    rw [renL_app, renL_pure, ← List.take_append_getElem hk, List.flatMap_append, List.map_append]
    rfl
  · skip
    intro h hJ
    subst hJ
    rw [List.length_map, accV_pos hpos, accB_pos hpos, List.take_length]
    refine AWp.seq ?_
    refine AWp.region ?_
    refine AList.c 12 rfl rfl rfl (OpJ.load rfl rfl ty193 rfl) ?_
    refine AList.c 4 rfl rfl rfl (OpJ.assign rfl rfl) ?_
    refine AList.nil ?_
    refine AWp.freeze 1 rfl (allP_map _) ?_
    refine AWp.ret ?_
    exact Fin.one rfl (rfl)
  · skip
    intro c h hx
    exact hx.elim
end Go.Proofs.YtbnemnhmejmeeaaGreatDoor.Bx
end

section
set_option linter.unusedVariables false
set_option maxRecDepth 100000
set_option maxHeartbeats 4000000
set_option linter.unusedSimpArgs false
namespace Go.Proofs.YtbnemnhmejmeeaaGreatDoor.Bx
open Go.AF
theorem collect_ok (n : Nat) (h1 : 1 ≤ n) (hn : n ≤ 8) : Pure Tryz.prog 115 [.func (.func 135) [] [.ip [.int .i64 (n : Int)] 0]] (setsV n) := by
  refine Pure.start (N := 5) Tryz.func115 rfl rfl (Nat.le_of_ble_eq_true rfl) ?_
  refine AWp.seq ?_
  refine AWp.region ?_
  refine AList.c 2 rfl rfl rfl (OpJ.assign rfl rfl) ?_
  refine AList.nil ?_
  refine AWp.seq ?_
  refine AWp.region ?_
  refine AList.c 3 rfl rfl rfl (OpJ.move rfl rfl) ?_
  refine AList.c 4 rfl rfl rfl (OpJ.callP (appendSeq_ok n h1 hn) rfl rfl rfl rfl rf134) ?_
  refine AList.c 2 rfl rfl rfl (OpJ.assign rfl rfl) ?_
  refine AList.nil ?_
  refine AWp.ret ?_
  exact Fin.one rfl (rfl)
theorem block_ok (v : List Int) (l : List Pl) (h0 : 0 < v.length) (hv : okV v) (hl : okP v.length l) : Pure Tryz.prog 84 [intsV v, plV l] (.tuple [.int .i64 ((lkF v l (allS v.length)).1 : Int), .int .i64 (lkF v l (allS v.length)).2]) := by
  have h8 := hv.1
  refine Pure.start (N := 16) Tryz.func84 rfl rfl (Nat.le_of_ble_eq_true rfl) ?_
  refine AWp.seq ?_
  refine AWp.region ?_
  refine AList.c 4 rfl rfl rfl (OpJ.assign rfl rfl) ?_
  refine AList.c 5 rfl rfl rfl (OpJ.assign rfl rfl) ?_
  refine AList.nil ?_
  refine AWp.seq ?_
  refine AWp.region ?_
  refine AList.c 6 rfl rfl rfl (OpJ.move rfl rfl) ?_
  refine AList.c 7 rfl rfl rfl (OpJ.callP (newStock_ok v.length l h8 hl) rfl rfl rfl rfl rf113) ?_
  refine AList.c 8 rfl rfl rfl (OpJ.move rfl rfl) ?_
  refine AList.c 9 rfl rfl rfl (OpJ.move rfl rfl) ?_
  refine AList.c 10 rfl rfl rfl (OpJ.lenSlice rfl rfl sl45 rfl) ?_
  refine AList.c 11 rfl rfl rfl (OpJ.callP (sets_ok v.length) rfl rfl rfl rfl rf116) ?_
  refine AList.c 12 rfl rfl rfl (OpJ.callP (collect_ok v.length h0 h8) rfl rfl rfl rfl rf115) ?_
  refine AList.c 13 rfl rfl rfl (OpJ.callP (worst_ok v l hv hl) rfl rfl rfl rfl rf114) ?_
  refine AList.c 14 rfl rfl rfl (OpJ.extract rfl rfl rfl) ?_
  refine AList.c 15 rfl rfl rfl (OpJ.extract rfl rfl rfl) ?_
  refine AList.c 4 rfl rfl rfl (OpJ.assign rfl rfl) ?_
  refine AList.c 5 rfl rfl rfl (OpJ.assign rfl rfl) ?_
  refine AList.nil ?_
  refine AWp.ret ?_
  exact Fin.many (xs := [.int .i64 ((lkF v l (allS v.length)).1 : Int), .int .i64 (lkF v l (allS v.length)).2]) rfl (⟨_, _, rfl, rfl, ⟨_, _, rfl, rfl, rfl⟩⟩) rfl
theorem can_ok (v : List Int) (l : List Pl) (h0 : 0 < v.length) (hv : okV v) (hl : okP v.length l) : Pure Tryz.prog 44 [intsV v, plV l] (.bool (decide ((lkF v l (allS v.length)).2 = 0))) := by
  refine Pure.start (N := 15) Tryz.func44 rfl rfl (Nat.le_of_ble_eq_true rfl) ?_
  refine AWp.seq ?_
  refine AWp.region ?_
  refine AList.c 4 rfl rfl rfl (OpJ.assign rfl rfl) ?_
  refine AList.nil ?_
  refine AWp.seq ?_
  refine AWp.region ?_
  refine AList.c 8 rfl rfl rfl (OpJ.move rfl rfl) ?_
  refine AList.c 9 rfl rfl rfl (OpJ.move rfl rfl) ?_
  refine AList.c 10 rfl rfl rfl (OpJ.callP (block_ok v l h0 hv hl) rfl rfl rfl rfl rf84) ?_
  refine AList.c 7 rfl rfl rfl (OpJ.move rfl rfl) ?_
  refine AList.c 11 rfl rfl rfl (OpJ.extract rfl rfl rfl) ?_
  refine AList.c 12 rfl rfl rfl (OpJ.extract rfl rfl rfl) ?_
  refine AList.c 5 rfl rfl rfl (OpJ.assign rfl rfl) ?_
  refine AList.c 6 rfl rfl rfl (OpJ.assign rfl rfl) ?_
  refine AList.nil ?_
  refine AWp.seq ?_
  refine AWp.region ?_
  refine AList.c 13 rfl rfl rfl (OpJ.move rfl rfl) ?_
  refine AList.c 14 rfl rfl rfl (OpJ.eql rfl rfl rfl) ?_
  refine AList.c 4 rfl rfl rfl (OpJ.assign rfl rfl) ?_
  refine AList.nil ?_
  refine AWp.ret ?_
  exact Fin.one rfl (rfl)
theorem bcheck_ok (need : List Int) (l : List Pr) (b : Int) (hnl : need.length ≤ bigN) (hll : l.length ≤ bigN) : Pure Tryz.prog 42 [intsV need, rawV l, .int .i64 b] (.int .i64 (checkR need l b)) := by
  refine Pure.start (N := 16) Tryz.func42 rfl rfl (Nat.le_of_ble_eq_true rfl) ?_
  refine AWp.seq ?_
  refine AWp.region ?_
  refine AList.c 6 rfl rfl rfl (OpJ.assign rfl rfl) ?_
  refine AList.nil ?_
  refine AWp.seq ?_
  refine AWp.block ?_
  refine AWp.seq ?_
  refine AWp.region ?_
  refine AList.c 8 rfl rfl rfl (OpJ.move rfl rfl) ?_
  refine AList.c 9 rfl rfl rfl (OpJ.move rfl rfl) ?_
  refine AList.c 10 rfl rfl rfl (OpJ.callP (isValid_ok need l hnl hll) rfl rfl rfl rfl rf82) ?_
  refine AList.c 11 rfl rfl rfl (OpJ.not_ rfl rfl) ?_
  refine AList.c 7 rfl rfl rfl (OpJ.assign rfl rfl) ?_
  refine AList.nil ?_
  refine AWp.cond _ rfl (fun hc0 => ?_) (fun hc0 => ?_)
  · skip
    refine AWp.seq ?_
    refine AWp.region ?_
    refine AList.c 6 rfl rfl rfl (OpJ.assign rfl rfl) ?_
    refine AList.nil ?_
    refine AWp.ret ?_
    refine Fin.oneE rfl rfl ?_
    have hV : ¬ Vld need l := by simpa using hc0
    unfold checkR; rw [if_neg hV]
  · skip
    refine AWp.seq ?_
    refine AWp.region ?_
    refine AList.c 13 rfl rfl rfl (OpJ.move rfl rfl) ?_
    refine AList.c 14 rfl rfl rfl (OpJ.callP (within_ok _ _ _) rfl rfl rfl rfl rf83) ?_
    refine AList.c 15 rfl rfl rfl (OpJ.not_ rfl rfl) ?_
    refine AList.c 12 rfl rfl rfl (OpJ.assign rfl rfl) ?_
    refine AList.nil ?_
    refine AWp.cond _ rfl (fun hc1 => ?_) (fun hc1 => ?_)
    · skip
      refine AWp.seq ?_
      refine AWp.region ?_
      refine AList.c 6 rfl rfl rfl (OpJ.assign rfl rfl) ?_
      refine AList.nil ?_
      refine AWp.ret ?_
      refine Fin.oneE rfl rfl ?_
      have hV : Vld need l := by simpa using hc0
      have hb : ¬ (0 ≤ b ∧ b ≤ 1048576) := by simp at hc1; omega
      unfold checkR; rw [if_pos hV, if_neg hb]
    · skip
      refine AWp.skip ?_
      refine AWp.seq ?_
      refine AWp.region ?_
      refine AList.c 6 rfl rfl rfl (OpJ.assign rfl rfl) ?_
      refine AList.nil ?_
      refine AWp.ret ?_
      refine Fin.oneE rfl rfl ?_
      have hV : Vld need l := by simpa using hc0
      have hb : 0 ≤ b ∧ b ≤ 1048576 := by simp at hc1; omega
      unfold checkR; rw [if_pos hV, if_pos hb]
end Go.Proofs.YtbnemnhmejmeeaaGreatDoor.Bx
end

section
set_option linter.unusedVariables false
set_option maxRecDepth 100000
set_option maxHeartbeats 4000000
set_option linter.unusedSimpArgs false
namespace Go.Proofs.YtbnemnhmejmeeaaGreatDoor.Bx
open Go.AF
theorem search_ok (n r : Nat) (fn : Fn) (fi ca : List PV) (p : Nat → Bool) (hn : n ≤ 140737488355328) (hr : r ≤ n) (h1 : ∀ i, i < r → p i = false) (h2 : ∀ i, r ≤ i → i < n → p i = true) (hf : ∀ i, i < n → FPure Tryz.prog (.func fn fi ca) [.int .i64 ((i : Nat) : Int)] (.bool (p i))) : Pure Tryz.prog 85 [.int .i64 (n : Int), .func fn fi ca] (.int .i64 (r : Int)) := by
  refine Pure.start (N := 26) Tryz.func85 rfl rfl (Nat.le_of_ble_eq_true rfl) ?_
  refine AWp.seq ?_
  refine AWp.region ?_
  refine AList.c 4 rfl rfl rfl (OpJ.assign rfl rfl) ?_
  refine AList.nil ?_
  refine AWp.seq ?_
  refine AWp.region ?_
  refine AList.c 8 rfl rfl rfl (OpJ.move rfl rfl) ?_
  refine AList.c 5 rfl rfl rfl (OpJ.assign rfl rfl) ?_
  refine AList.c 6 rfl rfl rfl (OpJ.assign rfl rfl) ?_
  refine AList.nil ?_
  refine AWp.seq ?_
  refine AWp.block ?_
  refine AWp.loopK [5, 6, 7, 9, 10, 11, 12, 13, 14, 15, 16, 17, 18, 19, 20, 21, 22, 23, 24] (fun g => [(5, .p (.int .i64 ((g.1 : Nat) : Int))), (6, .p (.int .i64 ((g.2 : Nat) : Int)))]) (fun g => g.1 ≤ r ∧ r ≤ g.2 ∧ g.2 ≤ n) (fun g => g.2 - g.1) (0, n) ⟨Nat.zero_le _, hr, Nat.le_refl _⟩ (Sub.cons rfl (Sub.cons rfl (Sub.nil))) (fun g hg => ?_)
  obtain ⟨i, j⟩ := g
  obtain ⟨hi, hj, hjn⟩ := hg
  dsimp only at hi hj hjn ⊢
  refine AWp.seq ?_
  refine AWp.seq ?_
  refine AWp.region ?_
  refine AList.c 9 rfl rfl rfl (OpJ.move rfl rfl) ?_
  refine AList.c 10 rfl rfl rfl (OpJ.move rfl rfl) ?_
  refine AList.c 11 rfl rfl rfl (OpJ.lss rfl rfl rfl) ?_
  refine AList.nil ?_
  refine AWp.cond _ rfl (fun hc0 => ?_) (fun hc0 => ?_)
  · skip
    have hij : i < j := by simp at hc0; omega
    have hf0 := hf ((i + j) / 2) (by omega)
    refine AWp.skip ?_
    refine AWp.block ?_
    refine AWp.seq ?_
    refine AWp.region ?_
    refine AList.c 12 rfl rfl rfl (OpJ.move rfl rfl) ?_
    refine AList.c 13 rfl rfl rfl (OpJ.move rfl rfl) ?_
    refine AList.c 14 rfl rfl rfl (OpJ.add rfl rfl rfl (i64ok ?_)) ?_
    · omega
    refine AList.c 15 rfl rfl rfl (OpJ.convInt rfl rfl (by rw [un3]; rfl) un176 (u64ok ?_)) ?_
    · omega
    refine AList.c 16 rfl rfl rfl (OpJ.shr (m := (((i + j) / 2 : Nat) : Int)) rfl rfl rfl (by decide) ?_) ?_
    · refine shr1.trans ?_; omega
    refine AList.c 17 rfl rfl rfl (OpJ.convInt rfl rfl (by rw [un176]; rfl) un3 (i64ok ?_)) ?_
    · omega
    refine AList.c 7 rfl rfl rfl (OpJ.assign rfl rfl) ?_
    refine AList.nil ?_
    refine AWp.seq ?_
    refine AWp.region ?_
    refine AList.c 18 rfl rfl rfl (OpJ.move rfl rfl) ?_
    refine AList.c 19 rfl rfl rfl (OpJ.move rfl rfl) ?_
    refine AList.c 20 rfl rfl rfl (OpJ.callF (hf0) rfl rfl rfl) ?_
    refine AList.c 21 rfl rfl rfl (OpJ.not_ rfl rfl) ?_
    refine AList.nil ?_
    refine AWp.cond _ rfl (fun hc1 => ?_) (fun hc1 => ?_)
    · skip
      have q1 : p ((i + j) / 2) = false := by simpa using hc1
      have q2 : (i + j) / 2 + 1 ≤ r := by rcases Nat.lt_or_ge ((i + j) / 2) r with h | h; { omega }; { have := h2 _ h (by omega); rw [q1] at this; cases this }
      refine AWp.region ?_
      refine AList.c 22 rfl rfl rfl (OpJ.move rfl rfl) ?_
      refine AList.c 23 rfl rfl rfl (OpJ.add rfl rfl rfl (i64ok ?_)) ?_
      · omega
      refine AList.c 5 rfl rfl rfl (OpJ.assign rfl rfl) ?_
      refine AList.nil ?_
      refine ⟨((i + j) / 2 + 1, j), ?_, ?_, ?_⟩
      · exact ⟨q2, hj, hjn⟩
      · dsimp only; omega
      exact To.done [] rfl (by repeat (first | exact Sub.nil | refine Sub.cons rfl ?_)) rfl
    · skip
      have q1 : p ((i + j) / 2) = true := by simpa using hc1
      have q2 : r ≤ (i + j) / 2 := by rcases Nat.lt_or_ge ((i + j) / 2) r with h | h; { have := h1 _ h; rw [q1] at this; cases this }; { omega }
      refine AWp.region ?_
      refine AList.c 24 rfl rfl rfl (OpJ.move rfl rfl) ?_
      refine AList.c 6 rfl rfl rfl (OpJ.assign rfl rfl) ?_
      refine AList.nil ?_
      refine ⟨(i, (i + j) / 2), ?_, ?_, ?_⟩
      · exact ⟨hi, q2, by dsimp only; omega⟩
      · dsimp only; omega
      exact To.done [] rfl (by repeat (first | exact Sub.nil | refine Sub.cons rfl ?_)) rfl
  · skip
    obtain rfl : i = r := by simp at hc0; omega
    refine AWp.exit ?_
    refine AWp.seq ?_
    refine AWp.region ?_
    refine AList.c 25 rfl rfl rfl (OpJ.move rfl rfl) ?_
    refine AList.c 4 rfl rfl rfl (OpJ.assign rfl rfl) ?_
    refine AList.nil ?_
    refine AWp.ret ?_
    refine Fin.oneE rfl rfl ?_
    rfl
theorem great1_ok (i : Nat) (f : PV) (q : Bool) (hi : i ≤ 8388608) (hf : FPure Tryz.prog f [.int .i64 ((i + 1 : Nat) : Int)] (.bool q)) : Pure Tryz.prog 86 [.int .i64 (i : Int), .ip [f] 0] (.bool (!q)) := by
  refine Pure.start (N := 9) Tryz.func86 rfl rfl (Nat.le_of_ble_eq_true rfl) ?_
  refine AWp.seq ?_
  refine AWp.region ?_
  refine AList.c 3 rfl rfl rfl (OpJ.assign rfl rfl) ?_
  refine AList.nil ?_
  refine AWp.seq ?_
  refine AWp.region ?_
  refine AList.c 4 rfl rfl rfl (OpJ.load rfl rfl ty114 rfl) ?_
  refine AList.c 5 rfl rfl rfl (OpJ.move rfl rfl) ?_
  refine AList.c 6 rfl rfl rfl (OpJ.add (m := ((i + 1 : Nat) : Int)) rfl rfl rfl ((i64ok ?_).trans ?_)) ?_
  · omega
  · omega
  refine AList.c 7 rfl rfl rfl (OpJ.callF (hf) rfl rfl rfl) ?_
  refine AList.c 8 rfl rfl rfl (OpJ.not_ rfl rfl) ?_
  refine AList.c 3 rfl rfl rfl (OpJ.assign rfl rfl) ?_
  refine AList.nil ?_
  refine AWp.ret ?_
  exact Fin.one rfl (rfl)
theorem great_ok (n r : Nat) (fn : Fn) (fi ca : List PV) (p : Nat → Bool) (hn : n ≤ 8388608) (hr : r ≤ n) (h1 : ∀ i, i < r → p (i + 1) = true) (h2 : ∀ i, r ≤ i → i < n → p (i + 1) = false) (hf : ∀ i, i < n → FPure Tryz.prog (.func fn fi ca) [.int .i64 ((i + 1 : Nat) : Int)] (.bool (p (i + 1)))) : Pure Tryz.prog 49 [.int .i64 (n : Int), .func fn fi ca] (.int .i64 (r : Int)) := by
  refine Pure.start (N := 8) Tryz.func49 rfl rfl (Nat.le_of_ble_eq_true rfl) ?_
  refine AWp.seq ?_
  refine AWp.region ?_
  refine AList.c 3 rfl rfl rfl (OpJ.boxImm rfl rfl rfl) ?_
  refine AList.c 4 rfl rfl rfl (OpJ.assign rfl rfl) ?_
  refine AList.nil ?_
  refine AWp.seq ?_
  refine AWp.region ?_
  refine AList.c 5 rfl rfl rfl (OpJ.move rfl rfl) ?_
  refine AList.c 6 rfl rfl rfl (OpJ.makeFunc rfl rfl rfl) ?_
  refine AList.c 7 rfl rfl rfl (OpJ.callP (search_ok n r (.func 86) [] [.ip [.func fn fi ca] 0] (fun i => !p (i + 1)) (by omega) hr (fun i hi => by show (!p (i + 1)) = false; rw [h1 i hi]; rfl) (fun i a b => by show (!p (i + 1)) = true; rw [h2 i a b]; rfl) (fun i hi => ⟨86, [.int .i64 (i : Int), .ip [.func fn fi ca] 0], rfl, rf86, great1_ok i (.func fn fi ca) _ (by omega) (hf i hi)⟩)) rfl rfl rfl rfl rf85) ?_
  refine AList.c 4 rfl rfl rfl (OpJ.assign rfl rfl) ?_
  refine AList.nil ?_
  refine AWp.ret ?_
  exact Fin.one rfl (rfl)
end Go.Proofs.YtbnemnhmejmeeaaGreatDoor.Bx
end

section
set_option linter.unusedVariables false
set_option maxRecDepth 100000
set_option maxHeartbeats 4000000
set_option linter.unusedSimpArgs false
namespace Go.Proofs.YtbnemnhmejmeeaaGreatDoor.Bx
open Go.AF
end Go.Proofs.YtbnemnhmejmeeaaGreatDoor.Bx
end

section
set_option linter.unusedVariables false
set_option maxRecDepth 100000
set_option maxHeartbeats 4000000
set_option linter.unusedSimpArgs false
namespace Go.Proofs.YtbnemnhmejmeeaaGreatDoor.Bx
open Go.AF

end Go.Proofs.YtbnemnhmejmeeaaGreatDoor.Bx
end

section
set_option linter.unusedVariables false
set_option maxRecDepth 100000
set_option maxHeartbeats 4000000
set_option linter.unusedSimpArgs false
namespace Go.Proofs.YtbnemnhmejmeeaaGreatDoor.Bx
open Go.AF
end Go.Proofs.YtbnemnhmejmeeaaGreatDoor.Bx
end

section
set_option linter.unusedVariables false
set_option maxRecDepth 100000
set_option maxHeartbeats 4000000
set_option linter.unusedSimpArgs false
namespace Go.Proofs.YtbnemnhmejmeeaaGreatDoor.Bx
open Go.AF
theorem can_L (v : List Int) (l : List Pl) (L R : Nat) (hL : v.length = L) (hR : l.length = R) (h0 : 0 < L) (hv : okV v) (hl : okP L l) : Pure Tryz.prog 44 [.is (v.flatMap i1) L, .is (l.flatMap Pl.cells) R] (.bool (decide ((lkF v l (allS L)).2 = 0))) := by
  subst hL; subst hR; exact can_ok v l h0 hv hl
theorem clone_L (v : List Int) (L : Nat) (hL : v.length = L) (h0 : 0 < L) (h8 : L ≤ 8) : ACalls Tryz.prog 48 ([.is (v.flatMap i1) L].map .p) [] fun x H' => x = .row 0 L ∧ H' = [.row ((v.flatMap i1).map .p) 3] := by
  subst hL; exact clone_ok v h0 h8
theorem clonePl_ok (l : List Pl) (h0 : 0 < l.length) (h8 : l.length ≤ 8) : ACalls Tryz.prog 45 ([plV l].map .p) [] fun x H' => x = .row 0 l.length ∧ H' = [.row ((l.flatMap Pl.cells).map .p) 105] := by
  refine ACalls.start (N := 8) Tryz.func45 rfl rfl (Nat.le_of_ble_eq_true rfl) ?_
  refine AWp.seq ?_
  refine AWp.region ?_
  refine AList.c 2 rfl rfl rfl (OpJ.assign rfl rfl) ?_
  refine AList.nil ?_
  refine AWp.seq ?_
  refine AWp.seq ?_
  refine AWp.region ?_
  refine AList.c 3 rfl rfl rfl (OpJ.move rfl rfl) ?_
  refine AList.c 4 rfl rfl rfl (OpJ.eqNil rfl rfl rfl slz50 h0) ?_
  refine AList.nil ?_
  refine AWp.cond _ rfl (fun hc0 => ?_) (fun hc0 => ?_)
  · skip
    cases hc0
  · skip
    refine AWp.skip ?_
    refine AWp.seq ?_
    refine AWp.region ?_
    refine AList.c 5 rfl rfl rfl (OpJ.buildOwn rfl slz50 (by decide) rfl rfl) ?_
    refine AList.c 6 rfl rfl rfl (OpJ.move rfl rfl) ?_
    refine AList.c 7 rfl rfl rfl (OpJ.appendRow rfl rfl rfl slz50 sl50 rfl ?_ (asrc_is (by rw [flat_len (c := 2) (fun _ => rfl)]; rfl)) (onePl l) by105 (by decide) ?_) ?_
    · rfl
    · show (2 * (0 + l.length) + 192) * 16 ≤ 281474976710656; omega
    refine AList.c 2 rfl rfl rfl (OpJ.assign rfl rfl) ?_
    refine AList.nil ?_
    refine AWp.norm [1] [(2, .row 0 (0 + l.length))] [.row ((l.flatMap Pl.cells).map .p) 105] rfl (by repeat (first | exact Sub.nil | refine Sub.cons rfl ?_)) ?_ ?_
    · show [Blk.row (renL _ (_ ++ _)) _] = _
      rw [renL_app, renL_pure (pl [1]) (l.flatMap Pl.cells)]; rfl
    refine AWp.ret ?_
    exact ⟨.inr rfl, .row 0 (0 + l.length), resV.one rfl rfl, by rw [Nat.zero_add], rfl⟩
theorem clonePl_L (l : List Pl) (R : Nat) (hR : l.length = R) (h0 : 0 < R) (h8 : R ≤ 8) : ACalls Tryz.prog 45 ([.is (l.flatMap Pl.cells) R].map .p) [] fun x H' => x = .row 0 R ∧ H' = [.row ((l.flatMap Pl.cells).map .p) 105] := by
  subst hR; exact clonePl_ok l h0 h8
theorem fill1_ok (v : List Int) (L R j i : Nat) (p : Pl) (rest : List Pl) (hL : v.length = L) (hR : (p :: rest).length = R) (h8 : L ≤ 8) (hj : j < L) (hv : okV v) (hp : okP L (p :: rest)) (hi : (i : Int) ≤ p.m) : Pure Tryz.prog 47 [.int .i64 (i : Int), .ip [.is (v.flatMap i1) L] 0, .ip [.int .i64 (j : Int)] 0, .ip [.is ((p :: rest).flatMap Pl.cells) R] 0] (.bool (ownB L v p.s p.m rest j i)) := by
  have hr8 := hp.1
  have hpm := hp.2 p (by simp)
  have hR0 : 0 < R := by rw [← hR]; simp
  have hR8 : R ≤ 8 := by omega
  have hjv : j < v.length := by omega
  have h0p : 0 < (p :: rest).length := by simp
  have hp2 : okP L (⟨p.s, p.m - (i : Int)⟩ :: rest) := ⟨hr8, fun q hq => by rcases List.mem_cons.1 hq with rfl | hq; exact ⟨hpm.1, by show 0 ≤ p.m - (i : Int); omega, by show p.m - (i : Int) ≤ 1048576; omega⟩; exact hp.2 q (by simp [hq])⟩
  have hv2 : okV (v.set j 0) := ⟨by rw [List.length_set]; exact hv.1, fun x hx => by rcases List.mem_or_eq_of_mem_set hx with h | rfl; exact hv.2 x h; omega⟩
  refine Pure.start (N := 26) Tryz.func47 rfl rfl (Nat.le_of_ble_eq_true rfl) ?_
  refine AWp.seq ?_
  refine AWp.region ?_
  refine AList.c 5 rfl rfl rfl (OpJ.assign rfl rfl) ?_
  refine AList.nil ?_
  refine AWp.seq ?_
  refine AWp.region ?_
  refine AList.c 8 rfl rfl rfl (OpJ.load rfl rfl ty45 rfl) ?_
  refine AList.c 9 rfl rfl rfl (OpJ.callRow 3 (clone_L v L hL (by omega) h8) (scI _) rfl rfl rfl rfl rfl rf48) ?_
  refine AList.c 6 rfl rfl rfl (OpJ.assign rfl rfl) ?_
  refine AList.nil ?_
  refine AWp.seq ?_
  refine AWp.region ?_
  refine AList.c 10 rfl rfl rfl (OpJ.move rfl rfl) ?_
  refine AList.c 11 rfl rfl rfl (OpJ.load rfl rfl ty3 rfl) ?_
  refine AList.c 12 rfl rfl rfl (OpJ.indexRow rfl rfl rfl sl45 el45 hj) ?_
  refine AList.c0 rfl rfl (OpJ.storeRow (f := i1) (c := 1) (k := j) (j := 0) (xs := v) (z := 0) (ws := [_]) rfl rfl rfl rfl rfl ty3 rfl rfl rfl (by omega) (fun _ => rfl) hjv (Nat.le_of_ble_eq_true rfl) rfl) ?_
  refine AList.nil ?_
  refine AWp.seq ?_
  refine AWp.region ?_
  refine AList.c 13 rfl rfl rfl (OpJ.load rfl rfl ty50 rfl) ?_
  refine AList.c 14 rfl rfl rfl (OpJ.callRow 3 (clonePl_L (p :: rest) R hR hR0 hR8) (scPl _) rfl rfl rfl rfl rfl rf45) ?_
  refine AList.c 7 rfl rfl rfl (OpJ.assign rfl rfl) ?_
  refine AList.nil ?_
  refine AWp.seq ?_
  refine AWp.region ?_
  refine AList.c 15 rfl rfl rfl (OpJ.move rfl rfl) ?_
  refine AList.c 16 rfl rfl rfl (OpJ.indexRow (k := 0) rfl rfl rfl sl50 el50 hR0) ?_
  refine AList.c 17 rfl rfl rfl (OpJ.fieldAddr rfl rfl fd105_1 rfl) ?_
  refine AList.c 18 rfl rfl rfl (OpJ.loadFlat (f := Pl.cells) (c := 2) (k := 0) (j := 1) (xs := (p :: rest)) rfl rfl ty3 rfl rfl (by omega) (fun _ => rfl) h0p (by decide) (show _ = PV.int .i64 p.m from rfl)) ?_
  refine AList.c 19 rfl rfl rfl (OpJ.move rfl rfl) ?_
  refine AList.c 20 rfl rfl rfl (OpJ.sub_ rfl rfl rfl (i64ok ?_)) ?_
  · omega
  refine AList.c 21 rfl rfl rfl (OpJ.indexRow (k := 0) rfl rfl rfl sl50 el50 hR0) ?_
  refine AList.c 22 rfl rfl rfl (OpJ.fieldAddr rfl rfl fd105_1 rfl) ?_
  refine AList.c0 rfl rfl (OpJ.storeRow (f := Pl.cells) (c := 2) (k := 0) (j := 1) (xs := (p :: rest)) (z := ⟨p.s, p.m - (i : Int)⟩) (ws := [_]) rfl rfl rfl rfl rfl ty3 rfl rfl rfl (by omega) (fun _ => rfl) h0p (Nat.le_of_ble_eq_true rfl) rfl) ?_
  refine AList.nil ?_
  refine AWp.seq ?_
  refine AWp.freeze 0 rfl (allP_map _) ?_
  refine AWp.freeze 1 rfl (allP_map _) ?_
  refine AWp.region ?_
  refine AList.c 23 rfl rfl rfl (OpJ.move rfl rfl) ?_
  refine AList.c 24 rfl rfl rfl (OpJ.move rfl rfl) ?_
  refine AList.c 25 rfl rfl rfl (OpJ.callP (can_L (v.set j 0) (⟨p.s, p.m - (i : Int)⟩ :: rest) L R (by rw [List.length_set]; exact hL) hR (by omega) hv2 hp2) rfl rfl rfl rfl rf44) ?_
  refine AList.c 5 rfl rfl rfl (OpJ.assign rfl rfl) ?_
  refine AList.nil ?_
  refine AWp.ret ?_
  exact Fin.one rfl (rfl)
theorem btimes_row (need : List Int) (b : Int) (h0 : 0 < need.length) (hn : okN need) (h8 : need.length ≤ 8) (b0 : 0 ≤ b) (b1 : b ≤ 10000000000) : ACalls Tryz.prog 43 ([intsV need, .int .i64 b].map .p) [] fun x H' => x = .row 0 need.length ∧ H' = [.row (((timesV need b).flatMap i1).map .p) 3] := by
  refine ACalls.start (N := 23) Tryz.func43 rfl rfl (Nat.le_of_ble_eq_true rfl) ?_
  refine AWp.seq ?_
  refine AWp.region ?_
  refine AList.c 4 rfl rfl rfl (OpJ.assign rfl rfl) ?_
  refine AList.nil ?_
  refine AWp.seq ?_
  refine AWp.region ?_
  refine AList.c 7 rfl rfl rfl (OpJ.move rfl rfl) ?_
  refine AList.c 8 rfl rfl rfl (OpJ.callRow 3 (clone_ok need h0 h8) (scI need) rfl rfl rfl rfl rfl rf48) ?_
  refine AList.c 5 rfl rfl rfl (OpJ.assign rfl rfl) ?_
  refine AList.nil ?_
  refine AWp.seq ?_
  refine AWp.seq ?_
  refine AWp.region ?_
  refine AList.c 9 rfl rfl rfl (OpJ.move rfl rfl) ?_
  refine AList.c 10 rfl rfl rfl (OpJ.lenSlice rfl rfl sl45 rfl) ?_
  refine AList.c 11 rfl rfl rfl (OpJ.move rfl rfl) ?_
  refine AList.nil ?_
  refine AWp.block ?_
  refine AWp.loopH [6, 11, 12, 13, 14, 15, 16, 17, 18, 19, 20, 21] (fun g => [(11, .p (.int .i64 ((g : Nat) : Int)))]) (fun g => [.row (((updL need b g).flatMap i1).map .p) 3]) (fun g => g ≤ need.length) (fun g => need.length - g) 0 (Nat.zero_le _) (To.sub (Sub.chd (Sub.cons rfl Sub.nil))) (fun i hg => ?_)
  refine AWp.seq ?_
  refine AWp.region ?_
  refine AList.c 12 rfl rfl rfl (OpJ.lss rfl rfl rfl) ?_
  refine AList.nil ?_
  refine AWp.seq ?_
  refine AWp.cond _ rfl (fun hc0 => ?_) (fun hc0 => ?_)
  · skip
    have hk0 : i < need.length := by have h := of_decide_eq_true hc0; omega
    have hku : i < (updL need b i).length := by rw [updL_length need b i (by omega)]; exact hk0
    have hni := hn need[i] (List.getElem_mem _)
    have hmb := mul_B hni.1 hni.2 b0 b1
    refine AWp.skip ?_
    refine AWp.seq ?_
    refine AWp.block ?_
    refine AWp.seq ?_
    refine AWp.region ?_
    refine AList.c 13 rfl rfl rfl (OpJ.move rfl rfl) ?_
    refine AList.c 6 rfl rfl rfl (OpJ.assign rfl rfl) ?_
    refine AList.nil ?_
    refine AWp.region ?_
    refine AList.c 14 rfl rfl rfl (OpJ.move rfl rfl) ?_
    refine AList.c 15 rfl rfl rfl (OpJ.move rfl rfl) ?_
    refine AList.c 16 rfl rfl rfl (OpJ.indexRow rfl rfl rfl sl45 el45 hk0) ?_
    refine AList.c 17 rfl rfl rfl (OpJ.loadFlat (f := i1) (c := 1) (k := i) (j := 0) (xs := (updL need b i)) rfl rfl ty3 rfl rfl (by omega) (fun _ => rfl) hku (by decide) (show _ = PV.int .i64 need[i] from by rw [updL_get need b i hk0]; rfl)) ?_
    refine AList.c 18 rfl rfl rfl (OpJ.move rfl rfl) ?_
    refine AList.c 19 rfl rfl rfl (OpJ.mul (m := need[i] * b) rfl rfl rfl ((i64ok ?_).trans ?_)) ?_
    · rw [Int.mul_comm]; omega
    · rfl
    refine AList.c 20 rfl rfl rfl (OpJ.indexRow rfl rfl rfl sl45 el45 hk0) ?_
    refine AList.c0 rfl rfl (OpJ.storeRow (f := i1) (c := 1) (k := i) (j := 0) (xs := (updL need b i)) (z := (need[i] * b)) (ws := [_]) rfl rfl rfl rfl rfl ty3 rfl rfl rfl (by omega) (fun _ => rfl) hku (Nat.le_of_ble_eq_true rfl) rfl) ?_
    refine AList.nil ?_
    refine AWp.region ?_
    refine AList.c 21 rfl rfl rfl (OpJ.add rfl rfl rfl (i64ok ?_)) ?_
    · omega
    refine AList.c 11 rfl rfl rfl (OpJ.move rfl rfl) ?_
    refine AList.nil ?_
    refine ⟨i + 1, ?_, ?_, ?_⟩
    · omega
    · omega
    refine To.done [0] rfl (by repeat (first | exact Sub.nil | refine Sub.cons rfl ?_)) ?_
    show [Blk.row (renL _ _) _] = _
    rw [renL_pure, updL_set need b i hk0]
  · skip
    obtain rfl : i = need.length := by have h := of_decide_eq_false hc0; omega
    rw [updL_full]
    refine AWp.exit ?_
    refine AWp.seq ?_
    refine AWp.region ?_
    refine AList.c 22 rfl rfl rfl (OpJ.move rfl rfl) ?_
    refine AList.c 4 rfl rfl rfl (OpJ.assign rfl rfl) ?_
    refine AList.nil ?_
    refine AWp.ret ?_
    exact ⟨.inr rfl, .row 0 need.length, resV.one rfl rfl, rfl, rfl⟩
end Go.Proofs.YtbnemnhmejmeeaaGreatDoor.Bx
end

section
set_option linter.unusedVariables false
set_option maxRecDepth 100000
set_option maxHeartbeats 4000000
set_option linter.unusedSimpArgs false
namespace Go.Proofs.YtbnemnhmejmeeaaGreatDoor.Bx
open Go.AF
theorem bfill_ok (need : List Int) (l : List Pr) (b : Int) (hnl : need.length ≤ bigN) (hll : l.length ≤ bigN) : Pure Tryz.prog 15 [intsV need, rawV l, .int .i64 b] (.tuple [rowsV need.length (fillR need l b).1, .int .i64 (fillR need l b).2]) := by
  refine Pure.start (N := 118) Tryz.func15 rfl rfl (Nat.le_of_ble_eq_true rfl) ?_
  refine AWp.seq ?_
  refine AWp.region ?_
  refine AList.c 6 rfl rfl rfl (OpJ.assign rfl rfl) ?_
  refine AList.c 7 rfl rfl rfl (OpJ.assign rfl rfl) ?_
  refine AList.nil ?_
  refine AWp.seq ?_
  refine AWp.seq ?_
  refine AWp.region ?_
  refine AList.c 19 rfl rfl rfl (OpJ.move rfl rfl) ?_
  refine AList.c 20 rfl rfl rfl (OpJ.move rfl rfl) ?_
  refine AList.c 21 rfl rfl rfl (OpJ.move rfl rfl) ?_
  refine AList.c 22 rfl rfl rfl (OpJ.callP (bcheck_ok need l b hnl hll) rfl rfl rfl rfl rf42) ?_
  refine AList.c 8 rfl rfl rfl (OpJ.assign rfl rfl) ?_
  refine AList.nil ?_
  refine AWp.seq ?_
  refine AWp.region ?_
  refine AList.c 23 rfl rfl rfl (OpJ.move rfl rfl) ?_
  refine AList.c 24 rfl rfl rfl (OpJ.neq rfl rfl rfl) ?_
  refine AList.nil ?_
  refine AWp.cond _ rfl (fun hc0 => ?_) (fun hc0 => ?_)
  · skip
    have hc : checkR need l b ≠ 0 := by simpa using hc0
    refine AWp.seq ?_
    refine AWp.region ?_
    refine AList.c 25 rfl rfl rfl (OpJ.move rfl rfl) ?_
    refine AList.c 6 rfl rfl rfl (OpJ.assign rfl rfl) ?_
    refine AList.c 7 rfl rfl rfl (OpJ.assign rfl rfl) ?_
    refine AList.nil ?_
    refine AWp.to (To.nilIs 6 rfl) ?_
    refine AWp.ret ?_
    have e : fillR need l b = ([], checkR need l b) := by unfold fillR; rw [if_neg hc]
    rw [e]
    exact Fin.many (xs := [.is [] 0, .int .i64 (checkR need l b)]) rfl (⟨_, _, rfl, rfl, ⟨_, _, rfl, rfl, rfl⟩⟩) rfl
  · skip
    have hc : checkR need l b = 0 := by simpa using hc0
    obtain ⟨hV, hb⟩ := checkR_zero hc
    have hn : okN need := hV.2.2.1
    have h8 := hV.1.2
    have h0 := hV.1.1
    have hL := toPl_ok hV
    rw [toPl_raw hV]
    have hp := pow8 h8
    have hp1 := pow_pos' need.length
    have hA : allS need.length = 2 ^ need.length - 1 := rfl
    have hl8 := hL.1
    have hvt := timesV_ok (b := b) hn h8 (by omega) (by omega)
    refine AWp.skip ?_
    refine AWp.seq ?_
    refine AWp.region ?_
    refine AList.c 26 rfl rfl rfl (OpJ.move rfl rfl) ?_
    refine AList.c 27 rfl rfl rfl (OpJ.move rfl rfl) ?_
    refine AList.c 28 rfl rfl rfl (OpJ.callRow 3 (btimes_row need b h0 hn h8 (by omega) (by omega)) (scI _) rfl rfl rfl rfl rfl rf43) ?_
    refine AList.c 9 rfl rfl rfl (OpJ.allocOwn rfl zr45 rfl) ?_
    refine AList.c0 rfl rfl (OpJ.store rfl rfl rfl rfl rfl ty45 rfl rfl) ?_
    refine AList.nil ?_
    refine AWp.seq ?_
    refine AWp.seq ?_
    refine AWp.region ?_
    refine AList.c 29 rfl rfl rfl (OpJ.load rfl rfl ty45 rfl) ?_
    refine AList.c 30 rfl rfl rfl (OpJ.move rfl rfl) ?_
    refine AList.c 31 rfl rfl rfl (OpJ.callB 3 (can_L (timesV need b) (toPl l) need.length (toPl l).length (timesV_length _ _) rfl h0 hvt hL) rfl rfl rfl rfl rfl (mapO.c (brwRow rfl) (mapO.c brwP mapO.n)) rf44) ?_
    refine AList.c 32 rfl rfl rfl (OpJ.not_ rfl rfl) ?_
    refine AList.nil ?_
    refine AWp.cond _ rfl (fun hc1 => ?_) (fun hc1 => ?_)
    · skip
      have hz : ¬ (lkF (timesV need b) (toPl l) (allS need.length)).2 = 0 := by simpa using hc1
      refine AWp.seq ?_
      refine AWp.region ?_
      refine AList.c 6 rfl rfl rfl (OpJ.assign rfl rfl) ?_
      refine AList.c 7 rfl rfl rfl (OpJ.assign rfl rfl) ?_
      refine AList.nil ?_
      refine AWp.to (To.nilIs 6 rfl) ?_
      refine AWp.ret ?_
      have e : fillR need l b = ([], 10) := by unfold fillR; rw [if_pos hc, if_neg hz]
      rw [e]
      exact Fin.many (xs := [.is [] 0, .int .i64 10]) rfl (⟨_, _, rfl, rfl, ⟨_, _, rfl, rfl, rfl⟩⟩) rfl
    · skip
      have hz : (lkF (timesV need b) (toPl l) (allS need.length)).2 = 0 := by simpa using hc1
      have hLI := LInv.ok hL hn h8 (by omega) (by omega) hz
      refine AWp.skip ?_
      refine AWp.seq ?_
      refine AWp.region ?_
      refine AList.c 10 rfl rfl rfl (OpJ.allocOwn rfl zr110 rfl) ?_
      refine AList.nil ?_
      refine AWp.seq ?_
      refine AWp.seq ?_
      refine AWp.region ?_
      refine AList.c 33 rfl rfl rfl (OpJ.move rfl rfl) ?_
      refine AList.c 34 rfl rfl rfl (OpJ.lenSlice rfl rfl sl50 rfl) ?_
      refine AList.c 35 rfl rfl rfl (OpJ.move rfl rfl) ?_
      refine AList.nil ?_
      refine AWp.block ?_
      refine AWp.loopHL [0, 1, 6, 7, 9, 10, 17, 18, 34, 99, 100, 101, 102, 103, 104, 105, 106, 107, 108, 109, 110, 111, 112, 113, 114, 115, 116, 117] (fun g => [(35, .p (.int .i64 ((g : Nat) : Int)))]) (fun g => [.row (((leftF (toPl l) need.length (timesV need b) g).flatMap i1).map .p) 3, .cells [.row 0 need.length] 45, .cells (((soldS (rowsF (toPl l) need.length (timesV need b) g)).flatMap i1).map .p) 110]) (fun g => g ≤ (toPl l).length) (fun g => (toPl l).length - g) 0 (Nat.zero_le _) (To.sub (Sub.chk (Sub.cons rfl Sub.nil))) (fun i hg => ?_)
      refine AWp.seq ?_
      refine AWp.region ?_
      refine AList.c 36 rfl rfl rfl (OpJ.lss rfl rfl rfl) ?_
      refine AList.nil ?_
      refine AWp.seq ?_
      refine AWp.cond _ rfl (fun hc2 => ?_) (fun hc2 => ?_)
      · skip
        have hk0 : i < (toPl l).length := by have h := of_decide_eq_true hc2; omega
        have hdr : (toPl l).drop i = (toPl l)[i] :: (toPl l).drop (i + 1) := List.drop_eq_getElem_cons hk0
        have hR8 : ∀ x ∈ (rowsF (toPl l) need.length (timesV need b) i), x.length ≤ 8 := fun x hx => by rw [rowsF_mem hL hLI (by omega) x hx]; exact h8
        refine AWp.skip ?_
        refine AWp.seq ?_
        refine AWp.block ?_
        refine AWp.seq ?_
        refine AWp.region ?_
        refine AList.c 37 rfl rfl rfl (OpJ.move rfl rfl) ?_
        refine AList.c 11 rfl rfl rfl (OpJ.assign rfl rfl) ?_
        refine AList.nil ?_
        refine AWp.seq ?_
        refine AWp.region ?_
        refine AList.c 38 rfl rfl rfl (OpJ.move rfl rfl) ?_
        refine AList.c 39 rfl rfl rfl (OpJ.move rfl rfl) ?_
        refine AList.c 40 rfl rfl rfl (OpJ.sliceIs (l := i) (h := (toPl l).length) (r := (((toPl l).drop i).flatMap Pl.cells)) rfl rfl sl50 el50 ⟨_, rfl⟩ rfl (by omega) (by omega) (plDrop _ _)) ?_
        refine AList.c 41 rfl rfl rfl (OpJ.callRow 3 (clonePl_L ((toPl l).drop i) ((toPl l).length - i) (List.length_drop ..) (by omega) (by omega)) (scPl _) rfl rfl rfl rfl rfl rf45) ?_
        refine AList.c 12 rfl rfl rfl (OpJ.allocOwn rfl zr50 rfl) ?_
        refine AList.c0 rfl rfl (OpJ.store rfl rfl rfl rfl rfl ty50 rfl rfl) ?_
        refine AList.nil ?_
        refine AWp.seq ?_
        refine AWp.region ?_
        refine AList.c 42 rfl rfl rfl (OpJ.load rfl rfl ty50 rfl) ?_
        refine AList.c 43 rfl rfl rfl (OpJ.indexRow (k := 0) rfl rfl rfl sl50 el50 (show 0 < (toPl l).length - i by omega)) ?_
        refine AList.c 13 rfl rfl rfl (OpJ.assign rfl rfl) ?_
        refine AList.nil ?_
        refine AWp.seq ?_
        refine AWp.region ?_
        refine AList.c 44 rfl rfl rfl (OpJ.move rfl rfl) ?_
        refine AList.c 45 rfl rfl rfl (OpJ.lenSlice rfl rfl sl45 rfl) ?_
        refine AList.c 46 rfl rfl rfl (OpJ.move rfl rfl) ?_
        refine AList.nil ?_
        refine AWp.block ?_
        refine AWp.loopHL [0, 1, 6, 7, 9, 10, 11, 12, 13, 17, 18, 34, 35, 36, 37, 38, 39, 40, 41, 42, 43, 44, 45, 98, 99, 100, 101, 102, 103, 104, 105, 106, 107, 108, 109, 110, 111, 112, 113, 114, 115, 116, 117] (fun g => [(46, .p (.int .i64 ((g : Nat) : Int)))]) (fun g => [.row (((midF (toPl l) need.length (timesV need b) i g).v.flatMap i1).map .p) 3, .cells [.row 0 need.length] 45, .cells (((soldM (rowsF (toPl l) need.length (timesV need b) i) (midF (toPl l) need.length (timesV need b) i g).row).flatMap i1).map .p) 110, .row ((((⟨(midF (toPl l) need.length (timesV need b) i g).q, (midF (toPl l) need.length (timesV need b) i g).m⟩ : Pl) :: ((toPl l).drop (i + 1))).flatMap Pl.cells).map .p) 105, .cells [.row 3 ((toPl l).length - i)] 50]) (fun g => g ≤ need.length) (fun g => need.length - g) 0 (Nat.zero_le _) (by rw [midF_0 hk0, hdr, soldM_open (by rw [rowsF_length]; omega) h8]; exact To.sub (Sub.chk (Sub.cons rfl Sub.nil))) (fun k hh => ?_)
        refine AWp.seq ?_
        refine AWp.region ?_
        refine AList.c 47 rfl rfl rfl (OpJ.lss rfl rfl rfl) ?_
        refine AList.nil ?_
        refine AWp.seq ?_
        refine AWp.cond _ rfl (fun hc3 => ?_) (fun hc3 => ?_)
        · skip
          have hk1 : k < need.length := by have h := of_decide_eq_true hc3; omega
          have hF := midF_inv hL hLI hk0 k (by omega)
          have hkv : k < (midF (toPl l) need.length (timesV need b) i k).v.length := by rw [hF.len]; exact hk1
          have hkr : k < (midF (toPl l) need.length (timesV need b) i k).row.length := by rw [hF.rlen]; exact hk1
          have hokv := hF.okV h8
          have hFq := hF.q
          have hFm := hF.m0
          have hpk := pow_pos' k
          have hpk8 := pow8 (show k ≤ 8 by omega)
          have hFv := hF.pos _ (List.getElem_mem hkv)
          refine AWp.skip ?_
          refine AWp.seq ?_
          refine AWp.block ?_
          refine AWp.seq ?_
          refine AWp.region ?_
          refine AList.c 48 rfl rfl rfl (OpJ.move rfl rfl) ?_
          refine AList.c 14 rfl rfl rfl (OpJ.allocOwn rfl zr3 rfl) ?_
          refine AList.c0 rfl rfl (OpJ.store rfl rfl rfl rfl rfl ty3 rfl rfl) ?_
          refine AList.nil ?_
          refine AWp.seq ?_
          refine AWp.seq ?_
          refine AWp.regionDraw 7 mixed (by kernel_rfl) (by decide) ?_
          refine AQuiet.cons 49 rfl rfl rfl (OpJ.move rfl rfl) ?_
          refine AQuiet.cons 50 rfl rfl rfl (OpJ.nilCheck rfl rfl) ?_
          refine AQuiet.cons 51 rfl rfl rfl (OpJ.fieldAddr rfl rfl fd105_0 rfl) ?_
          refine AQuiet.cons 52 rfl rfl rfl (OpJ.load rfl rfl ty3 rfl) ?_
          refine AQuiet.cons 53 rfl rfl rfl (OpJ.load rfl rfl ty3 rfl) ?_
          refine AQuiet.cons 54 rfl rfl rfl (OpJ.callP (bhas_ok (midF (toPl l) need.length (timesV need b) i k).q k (by omega) (by omega)) rfl rfl rfl rfl rf46) ?_
          refine AQuiet.cons 55 rfl rfl rfl (OpJ.not_ rfl rfl) ?_
          refine AQuiet.nil ?_
          refine AList.nil ?_
          refine AWp.cond _ rfl (fun hc4 => ?_) (fun hc4 => ?_)
          · skip
            have hq : (midF (toPl l) need.length (timesV need b) i k).q.testBit k = false := by simpa using hc4
            refine AWp.exit ?_
            refine AWp.region ?_
            refine AList.c 97 rfl rfl rfl (OpJ.add rfl rfl rfl (i64ok ?_)) ?_
            · omega
            refine AList.c 46 rfl rfl rfl (OpJ.move rfl rfl) ?_
            refine AList.nil ?_
            refine ⟨k + 1, ?_, ?_, ?_⟩
            · omega
            · omega
            rw [midF_no hq]
            refine To.done [0, 1, 2, 3, 4] rfl (by repeat (first | exact Sub.nil | refine Sub.cons rfl ?_)) ?_
            show [Blk.row (renL _ _) _, Blk.cells _ _, Blk.cells (renL _ _) _, Blk.row (renL _ _) _, Blk.cells _ _] = _
            rw [renL_pure, renL_pure, renL_pure]
            rfl
          · skip
            have hq : (midF (toPl l) need.length (timesV need b) i k).q.testBit k = true := by simpa using hc4
            have hvk : (midF (toPl l) need.length (timesV need b) i k).v[k]?.getD 0 = (midF (toPl l) need.length (timesV need b) i k).v[k] := by simp [hkv]
            obtain ⟨n, r, hmin, hn8, hr, hrn, hcut1, hcut2⟩ := own_cut (posP_drop hL.pos (i + 1)) hF hk1 hq
            have hrr : (numF (toPl l) need.length (timesV need b) i k (allS need.length)) = (r : Int) := hr
            have hdl := dropB_lt (j := k) hFq
            have hop : okP need.length ((⟨(dropB (midF (toPl l) need.length (timesV need b) i k).q k), (midF (toPl l) need.length (timesV need b) i k).m⟩ : Pl) :: ((toPl l).drop (i + 1))) := ⟨by rw [List.length_cons, List.length_drop]; omega, fun q hq => by rcases List.mem_cons.1 hq with rfl | hq; exact ⟨hdl, hFm⟩; exact (okP_drop hL (i + 1)).2 q hq⟩
            have hks : i * 8 + k < (soldM (rowsF (toPl l) need.length (timesV need b) i) (midF (toPl l) need.length (timesV need b) i k).row).length := by rw [soldM_len hR8 (by rw [hF.rlen]; exact h8) (by rw [rowsF_length]; omega)]; omega
            have hset : (soldM (rowsF (toPl l) need.length (timesV need b) i) (midF (toPl l) need.length (timesV need b) i k).row).set (i * 8 + k) (numF (toPl l) need.length (timesV need b) i k (allS need.length)) = soldM (rowsF (toPl l) need.length (timesV need b) i) ((midF (toPl l) need.length (timesV need b) i k).row.set k (numF (toPl l) need.length (timesV need b) i k (allS need.length))) := by have h := soldM_set (n := (numF (toPl l) need.length (timesV need b) i k (allS need.length))) hR8 (by rw [hF.rlen]; exact h8) hkr; rwa [rowsF_length] at h
            refine AWp.skip ?_
            refine AWp.seq ?_
            refine AWp.regionDraw 9 mixed (by kernel_rfl) (by decide) ?_
            refine AQuiet.cons 56 rfl rfl rfl (OpJ.move rfl rfl) ?_
            refine AQuiet.cons 57 rfl rfl rfl (OpJ.nilCheck rfl rfl) ?_
            refine AQuiet.cons 58 rfl rfl rfl (OpJ.fieldAddr rfl rfl fd105_0 rfl) ?_
            refine AQuiet.cons 59 rfl rfl rfl (OpJ.load rfl rfl ty3 rfl) ?_
            refine AQuiet.cons 60 rfl rfl rfl (OpJ.load rfl rfl ty3 rfl) ?_
            refine AQuiet.cons 61 rfl rfl rfl (OpJ.shlN 1 k rfl rfl rfl (by show _ ≤ (64 : Nat); omega) (show ((1 * 2 ^ k : Nat) : Int) ≤ 9223372036854775807 by omega)) ?_
            refine AQuiet.cons 62 rfl rfl rfl (OpJ.andNotN (midF (toPl l) need.length (timesV need b) i k).q (1 * 2 ^ k) rfl rfl rfl (by first | (show _ ≤ (9223372036854775807 : Int); omega) | (show _ ≤ (4294967295 : Int); omega) | (show _ ≤ (18446744073709551615 : Int); omega) | (show _ ≤ (255 : Int); omega) | (show _ ≤ (65535 : Int); omega))) ?_
            refine AQuiet.cons 63 rfl rfl rfl (OpJ.nilCheck rfl rfl) ?_
            refine AQuiet.cons 64 rfl rfl rfl (OpJ.fieldAddr rfl rfl fd105_0 rfl) ?_
            refine AQuiet.nil ?_
            refine AList.c0 rfl rfl (OpJ.storeRow (f := Pl.cells) (c := 2) (k := 0) (j := 0) (xs := ((⟨(midF (toPl l) need.length (timesV need b) i k).q, (midF (toPl l) need.length (timesV need b) i k).m⟩ : Pl) :: ((toPl l).drop (i + 1)))) (z := (⟨((midF (toPl l) need.length (timesV need b) i k).q ^^^ ((midF (toPl l) need.length (timesV need b) i k).q &&& 1 * 2 ^ k)), (midF (toPl l) need.length (timesV need b) i k).m⟩ : Pl)) (ws := [_]) rfl rfl rfl rfl rfl ty3 rfl rfl rfl (by omega) (fun _ => rfl) (Nat.succ_pos _) (Nat.le_of_ble_eq_true rfl) rfl) ?_
            refine AList.nil ?_
            refine AWp.seq ?_
            refine AWp.region ?_
            rw [xor_pow hq]
            refine AList.c 65 rfl rfl rfl (OpJ.makeFunc rfl rfl rfl) ?_
            refine AList.c 15 rfl rfl rfl (OpJ.assign rfl rfl) ?_
            refine AList.nil ?_
            refine AWp.seq ?_
            refine AWp.regionDraw 12 mixed (by kernel_rfl) (by decide) ?_
            refine AQuiet.cons 66 rfl rfl rfl (OpJ.move rfl rfl) ?_
            refine AQuiet.cons 67 rfl rfl rfl (OpJ.nilCheck rfl rfl) ?_
            refine AQuiet.cons 68 rfl rfl rfl (OpJ.fieldAddr rfl rfl fd105_1 rfl) ?_
            refine AQuiet.cons 69 rfl rfl rfl (OpJ.load rfl rfl ty3 rfl) ?_
            refine AQuiet.cons 70 rfl rfl rfl (OpJ.load rfl rfl ty45 rfl) ?_
            refine AQuiet.cons 71 rfl rfl rfl (OpJ.load rfl rfl ty3 rfl) ?_
            refine AQuiet.cons 72 rfl rfl rfl (OpJ.indexRow rfl rfl rfl sl45 el45 hk1) ?_
            refine AQuiet.cons 73 rfl rfl rfl (OpJ.loadFlat (f := i1) (c := 1) (k := k) (j := 0) (xs := (midF (toPl l) need.length (timesV need b) i k).v) rfl rfl ty3 rfl rfl (by omega) (fun _ => rfl) hkv (by decide) (show _ = PV.int .i64 ((midF (toPl l) need.length (timesV need b) i k).v[k]?.getD 0) from by rw [List.getElem?_eq_getElem hkv]; rfl)) ?_
            refine AQuiet.cons 74 rfl rfl rfl (OpJ.min2 rfl rfl rfl) ?_
            rw [hmin]
            refine AQuiet.cons 75 rfl rfl rfl (OpJ.move rfl rfl) ?_
            refine AQuiet.cons 76 rfl rfl rfl (OpJ.callB 3 (great_ok n r (.func 47) [] [.ip [.is ((midF (toPl l) need.length (timesV need b) i k).v.flatMap i1) need.length] 0, .ip [.int .i64 (k : Int)] 0, .ip [.is (((⟨(dropB (midF (toPl l) need.length (timesV need b) i k).q k), (midF (toPl l) need.length (timesV need b) i k).m⟩ : Pl) :: ((toPl l).drop (i + 1))).flatMap Pl.cells) ((toPl l).length - i)] 0] (fun e => ownB need.length (midF (toPl l) need.length (timesV need b) i k).v (dropB (midF (toPl l) need.length (timesV need b) i k).q k) (midF (toPl l) need.length (timesV need b) i k).m ((toPl l).drop (i + 1)) k e) hn8 hrn hcut1 hcut2 (fun e he => ⟨47, .int .i64 ((e + 1 : Nat) : Int) :: [.ip [.is ((midF (toPl l) need.length (timesV need b) i k).v.flatMap i1) need.length] 0, .ip [.int .i64 (k : Int)] 0, .ip [.is (((⟨(dropB (midF (toPl l) need.length (timesV need b) i k).q k), (midF (toPl l) need.length (timesV need b) i k).m⟩ : Pl) :: ((toPl l).drop (i + 1))).flatMap Pl.cells) ((toPl l).length - i)] 0], rfl, rf47, fill1_ok (midF (toPl l) need.length (timesV need b) i k).v need.length ((toPl l).length - i) k (e + 1) ⟨(dropB (midF (toPl l) need.length (timesV need b) i k).q k), (midF (toPl l) need.length (timesV need b) i k).m⟩ ((toPl l).drop (i + 1)) hF.len (by rw [List.length_cons, List.length_drop]; omega) h8 hk1 hokv hop (by show ((e + 1 : Nat) : Int) ≤ (midF (toPl l) need.length (timesV need b) i k).m; omega)⟩)) rfl rfl rfl rfl rfl (mapO.c brwP (mapO.c (brwFunc mapO.n (mapO.c (brwPtrV rfl (brwRow rfl)) (mapO.c (brwPtrV rfl brwP) (mapO.c (brwPtrV rfl (brwRow rfl)) mapO.n)))) mapO.n)) rf49) ?_
            rw [← hrr]
            refine AQuiet.cons 16 rfl rfl rfl (OpJ.assign rfl rfl) ?_
            refine AQuiet.nil ?_
            refine AList.nil ?_
            refine AWp.seq ?_
            refine AWp.regionDraw 5 mixed (by kernel_rfl) (by decide) ?_
            refine AQuiet.cons 77 rfl rfl rfl (OpJ.move rfl rfl) ?_
            refine AQuiet.cons 78 rfl rfl rfl (OpJ.load rfl rfl ty3 rfl) ?_
            refine AQuiet.cons 79 rfl rfl rfl (OpJ.move rfl rfl) ?_
            refine AQuiet.cons 80 rfl rfl rfl (OpJ.indexArrI rfl rfl rfl ar110 el110 (by omega)) ?_
            refine AQuiet.cons 81 rfl rfl rfl (OpJ.indexArrI rfl rfl rfl ar109 el109 (by omega)) ?_
            refine AQuiet.nil ?_
            refine AList.c0 rfl rfl (OpJ.storeCells (f := i1) (c := 1) (k := (i * 8 + k)) (j := 0) (xs := (soldM (rowsF (toPl l) need.length (timesV need b) i) (midF (toPl l) need.length (timesV need b) i k).row)) (z := (numF (toPl l) need.length (timesV need b) i k (allS need.length))) (ws := [_]) rfl rfl rfl rfl rfl ty3 rfl rfl rfl (by omega) (fun _ => rfl) hks (Nat.le_of_ble_eq_true rfl) rfl) ?_
            refine AList.nil ?_
            refine AWp.seq ?_
            refine AWp.region ?_
            refine AList.c 82 rfl rfl rfl (OpJ.load rfl rfl ty45 rfl) ?_
            refine AList.c 83 rfl rfl rfl (OpJ.load rfl rfl ty3 rfl) ?_
            refine AList.c 84 rfl rfl rfl (OpJ.indexRow rfl rfl rfl sl45 el45 hk1) ?_
            refine AList.c 85 rfl rfl rfl (OpJ.loadFlat (f := i1) (c := 1) (k := k) (j := 0) (xs := (midF (toPl l) need.length (timesV need b) i k).v) rfl rfl ty3 rfl rfl (by omega) (fun _ => rfl) hkv (by decide) (show _ = PV.int .i64 ((midF (toPl l) need.length (timesV need b) i k).v[k]?.getD 0) from by rw [List.getElem?_eq_getElem hkv]; rfl)) ?_
            refine AList.c 86 rfl rfl rfl (OpJ.move rfl rfl) ?_
            refine AList.c 87 rfl rfl rfl (OpJ.sub_ rfl rfl rfl (i64ok ?_)) ?_
            · omega
            refine AList.c 88 rfl rfl rfl (OpJ.indexRow rfl rfl rfl sl45 el45 hk1) ?_
            refine AList.c0 rfl rfl (OpJ.storeRow (f := i1) (c := 1) (k := k) (j := 0) (xs := (midF (toPl l) need.length (timesV need b) i k).v) (z := ((midF (toPl l) need.length (timesV need b) i k).v[k]?.getD 0 - (numF (toPl l) need.length (timesV need b) i k (allS need.length)))) (ws := [_]) rfl rfl rfl rfl rfl ty3 rfl rfl rfl (by omega) (fun _ => rfl) hkv (Nat.le_of_ble_eq_true rfl) rfl) ?_
            refine AList.nil ?_
            refine AWp.region ?_
            refine AList.c 89 rfl rfl rfl (OpJ.move rfl rfl) ?_
            refine AList.c 90 rfl rfl rfl (OpJ.nilCheck rfl rfl) ?_
            refine AList.c 91 rfl rfl rfl (OpJ.fieldAddr rfl rfl fd105_1 rfl) ?_
            refine AList.c 92 rfl rfl rfl (OpJ.loadFlat (f := Pl.cells) (c := 2) (k := 0) (j := 1) (xs := ((⟨(dropB (midF (toPl l) need.length (timesV need b) i k).q k), (midF (toPl l) need.length (timesV need b) i k).m⟩ : Pl) :: ((toPl l).drop (i + 1)))) rfl rfl ty3 rfl rfl (by omega) (fun _ => rfl) (Nat.succ_pos _) (by decide) (show _ = PV.int .i64 (midF (toPl l) need.length (timesV need b) i k).m from rfl)) ?_
            refine AList.c 93 rfl rfl rfl (OpJ.move rfl rfl) ?_
            refine AList.c 94 rfl rfl rfl (OpJ.sub_ rfl rfl rfl (i64ok ?_)) ?_
            · omega
            refine AList.c 95 rfl rfl rfl (OpJ.nilCheck rfl rfl) ?_
            refine AList.c 96 rfl rfl rfl (OpJ.fieldAddr rfl rfl fd105_1 rfl) ?_
            refine AList.c0 rfl rfl (OpJ.storeRow (f := Pl.cells) (c := 2) (k := 0) (j := 1) (xs := ((⟨(dropB (midF (toPl l) need.length (timesV need b) i k).q k), (midF (toPl l) need.length (timesV need b) i k).m⟩ : Pl) :: ((toPl l).drop (i + 1)))) (z := (⟨(dropB (midF (toPl l) need.length (timesV need b) i k).q k), (midF (toPl l) need.length (timesV need b) i k).m - (numF (toPl l) need.length (timesV need b) i k (allS need.length))⟩ : Pl)) (ws := [_]) rfl rfl rfl rfl rfl ty3 rfl rfl rfl (by omega) (fun _ => rfl) (Nat.succ_pos _) (Nat.le_of_ble_eq_true rfl) rfl) ?_
            refine AList.nil ?_
            refine AWp.region ?_
            refine AList.c 97 rfl rfl rfl (OpJ.add rfl rfl rfl (i64ok ?_)) ?_
            · omega
            refine AList.c 46 rfl rfl rfl (OpJ.move rfl rfl) ?_
            refine AList.nil ?_
            refine ⟨k + 1, ?_, ?_, ?_⟩
            · omega
            · omega
            rw [midF_yes hq, hset]
            refine To.done [0, 1, 2, 3, 4] rfl (by repeat (first | exact Sub.nil | refine Sub.cons rfl ?_)) ?_
            show [Blk.row (renL _ _) _, Blk.cells _ _, Blk.cells (renL _ _) _, Blk.row (renL _ _) _, Blk.cells _ _] = _
            rw [renL_pure, renL_pure, renL_pure]
            rfl
        · skip
          obtain rfl : k = need.length := by have h := of_decide_eq_false hc3; omega
          refine AWp.exit ?_
          refine AWp.region ?_
          refine AList.c 98 rfl rfl rfl (OpJ.add rfl rfl rfl (i64ok ?_)) ?_
          · omega
          refine AList.c 35 rfl rfl rfl (OpJ.move rfl rfl) ?_
          refine AList.nil ?_
          refine ⟨i + 1, ?_, ?_, ?_⟩
          · omega
          · omega
          refine To.done [0, 1, 2] rfl (by repeat (first | exact Sub.nil | refine Sub.cons rfl ?_)) ?_
          show [Blk.row (renL _ _) _, Blk.cells _ _, Blk.cells (renL _ _) _] = _
          rw [renL_pure, renL_pure, rowsF_succ, ← soldM_close]
          rfl
      · skip
        obtain rfl : i = (toPl l).length := by have h := of_decide_eq_false hc2; omega
        have hRm := rowsF_mem hL hLI (Nat.le_refl (toPl l).length)
        have hRl := rowsF_length (toPl l) need.length (timesV need b) (toPl l).length
        refine AWp.freeze 2 rfl (allP_map _) ?_
        refine AWp.exit ?_
        refine AWp.seq ?_
        refine AWp.region ?_
        refine AList.c 99 rfl rfl rfl (OpJ.move rfl rfl) ?_
        refine AList.c 100 rfl rfl rfl (OpJ.lenSlice rfl rfl sl50 rfl) ?_
        refine AList.c 101 rfl rfl rfl (OpJ.makeSlice (n := (toPl l).length) (c := (toPl l).length) rfl rfl rfl slz52 by45 (by decide) (Nat.le_refl _) (by omega)) ?_
        rw [outsF_0 need.length (toPl l).length (rowsF (toPl l) need.length (timesV need b) (toPl l).length), ← oneC_flat (outsF need.length (rowsF (toPl l) need.length (timesV need b) (toPl l).length) (toPl l).length 0)]
        refine AList.c 17 rfl rfl rfl (OpJ.assign rfl rfl) ?_
        refine AList.nil ?_
        refine AWp.seq ?_
        refine AWp.seq ?_
        refine AWp.region ?_
        refine AList.c 102 rfl rfl rfl (OpJ.move rfl rfl) ?_
        refine AList.c 103 rfl rfl rfl (OpJ.lenSlice rfl rfl sl52 rfl) ?_
        refine AList.c 104 rfl rfl rfl (OpJ.move rfl rfl) ?_
        refine AList.nil ?_
        refine AWp.block ?_
        refine AWp.loopHL [0, 6, 7, 10, 17, 103, 117] (fun g => [(104, .p (.int .i64 ((g : Nat) : Int)))]) (fun g => [.row (((leftF (toPl l) need.length (timesV need b) (toPl l).length).flatMap i1).map .p) 3, .cells [.row 0 need.length] 45, .dead, .row (((outsF need.length (rowsF (toPl l) need.length (timesV need b) (toPl l).length) (toPl l).length g).flatMap oneC).map .p) 45]) (fun g => g ≤ (toPl l).length) (fun g => (toPl l).length - g) 0 (Nat.zero_le _) (To.sub (Sub.chk (Sub.cons rfl Sub.nil))) (fun j hj => ?_)
        refine AWp.seq ?_
        refine AWp.region ?_
        refine AList.c 105 rfl rfl rfl (OpJ.lss rfl rfl rfl) ?_
        refine AList.nil ?_
        refine AWp.seq ?_
        refine AWp.cond _ rfl (fun hc5 => ?_) (fun hc5 => ?_)
        · skip
          have hj0 : j < (toPl l).length := by have h := of_decide_eq_true hc5; omega
          have hjr : j < (rowsF (toPl l) need.length (timesV need b) (toPl l).length).length := by rw [hRl]; exact hj0
          have hjo : j < (outsF need.length (rowsF (toPl l) need.length (timesV need b) (toPl l).length) (toPl l).length j).length := by rw [outsF_len hRl (by omega)]; exact hj0
          refine AWp.skip ?_
          refine AWp.seq ?_
          refine AWp.block ?_
          refine AWp.seq ?_
          refine AWp.region ?_
          refine AList.c 106 rfl rfl rfl (OpJ.move rfl rfl) ?_
          refine AList.c 18 rfl rfl rfl (OpJ.assign rfl rfl) ?_
          refine AList.nil ?_
          refine AWp.region ?_
          refine AList.c 107 rfl rfl rfl (OpJ.move rfl rfl) ?_
          refine AList.c 108 rfl rfl rfl (OpJ.move rfl rfl) ?_
          refine AList.c 109 rfl rfl rfl (OpJ.move rfl rfl) ?_
          refine AList.c 110 rfl rfl rfl (OpJ.indexArr rfl rfl rfl ar110 el110 (by omega) (by omega) rfl) ?_
          refine AList.c 111 rfl rfl rfl (OpJ.move rfl rfl) ?_
          refine AList.c 112 rfl rfl rfl (OpJ.lenSlice rfl rfl sl45 rfl) ?_
          refine AList.c 113 rfl rfl rfl (OpJ.sliceArr (l := 0) (h := need.length) (r := ((rowsF (toPl l) need.length (timesV need b) (toPl l).length)[j].flatMap i1)) rfl rfl ar109 el109 rfl ⟨_, rfl⟩ (by omega) (by omega) (soldS_cut hRm h8 hjr)) ?_
          refine AList.c 114 rfl rfl rfl (OpJ.callRow 3 (clone_L (rowsF (toPl l) need.length (timesV need b) (toPl l).length)[j] need.length (hRm _ (List.getElem_mem _)) h0 h8) (scI _) rfl rfl rfl rfl rfl rf48) ?_
          refine AList.freeze 4 rfl (allP_map _) ?_
          refine AList.c 115 rfl rfl rfl (OpJ.indexRow rfl rfl rfl sl52 el52 hj0) ?_
          refine AList.c0 rfl rfl (OpJ.storeRow (f := oneC) (c := 1) (k := j) (j := 0) (xs := (outsF need.length (rowsF (toPl l) need.length (timesV need b) (toPl l).length) (toPl l).length j)) (z := (.is ((rowsF (toPl l) need.length (timesV need b) (toPl l).length)[j].flatMap i1) need.length)) (ws := [_]) rfl rfl rfl rfl rfl ty45 rfl rfl rfl (by omega) (fun _ => rfl) hjo (Nat.le_of_ble_eq_true rfl) rfl) ?_
          refine AList.nil ?_
          refine AWp.region ?_
          refine AList.c 116 rfl rfl rfl (OpJ.add rfl rfl rfl (i64ok ?_)) ?_
          · omega
          refine AList.c 104 rfl rfl rfl (OpJ.move rfl rfl) ?_
          refine AList.nil ?_
          refine ⟨j + 1, ?_, ?_, ?_⟩
          · omega
          · omega
          refine To.done [0, 1, 2, 3] rfl (by repeat (first | exact Sub.nil | refine Sub.cons rfl ?_)) ?_
          show [Blk.row (renL _ _) _, _, _, Blk.row (renL _ _) _] = _
          rw [renL_pure, renL_pure, outsF_set hRl hj0]
          rfl
        · skip
          obtain rfl : j = (toPl l).length := by have h := of_decide_eq_false hc5; omega
          refine AWp.freeze 3 rfl (allP_map _) ?_
          refine AWp.exit ?_
          refine AWp.seq ?_
          refine AWp.region ?_
          refine AList.c 117 rfl rfl rfl (OpJ.move rfl rfl) ?_
          refine AList.c 6 rfl rfl rfl (OpJ.assign rfl rfl) ?_
          refine AList.c 7 rfl rfl rfl (OpJ.assign rfl rfl) ?_
          refine AList.nil ?_
          refine AWp.ret ?_
          have e : fillR need l b = ((rowsF (toPl l) need.length (timesV need b) (toPl l).length), 0) := by unfold fillR; rw [if_pos hc, if_pos hz]
          rw [e]
          refine Fin.manyE (xs := [.is ((outsF need.length (rowsF (toPl l) need.length (timesV need b) (toPl l).length) (toPl l).length (toPl l).length).flatMap oneC) (toPl l).length, .int .i64 0]) rfl (⟨_, _, rfl, rfl, ⟨_, _, rfl, rfl, rfl⟩⟩) rfl ?_
          unfold rowsV; rw [hRl, oneC_flat, outsF_all hRl]
end Go.Proofs.YtbnemnhmejmeeaaGreatDoor.Bx
end
