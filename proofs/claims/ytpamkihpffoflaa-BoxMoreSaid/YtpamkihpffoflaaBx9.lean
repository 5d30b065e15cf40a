/-
  The sets, one after the other.
-/
import Derived.Test.YtpamkihpffoflaaBx8
set_option linter.unusedVariables false
set_option maxRecDepth 100000
set_option maxHeartbeats 4000000
set_option linter.unusedSimpArgs false
namespace Go.Proofs.Ytpamkihpffoflaa
open Go.AF
theorem setsL_at (n i : Nat) (h : i < allS n) : ((setsL n).map fun k => [V.p (.int .i64 ((k : Nat) : Int))])[i]? = some [V.p (.int .i64 ((i + 1 : Nat) : Int))] := by
  have h1 : i < (setsL n).length := by rw [setsL_length]; exact h
  rw [List.getElem?_map, List.getElem?_eq_getElem h1, setsL_get]; rfl
theorem sets_seq (n : Nat) (hn : n ≤ 8) : ASeq Try.prog 59 (fun y => [y, .p (.ip [.int .i64 (n : Int)] 0)]) ((setsL n).map fun k => [V.p (.int .i64 ((k : Nat) : Int))]) := by
  intro l κ nn inv fin hκ hnn hfin hb h0 hi0
  have hp := pow8 hn
  have hp1 := pow_pos' n
  have hA : allS n = 2 ^ n - 1 := rfl
  refine ACallsK.of_body (N := 15) Try.func59 rfl rfl (Nat.le_of_ble_eq_true rfl) ?_
  refine AWp.seq ?_
  refine AWp.region ?_
  refine AList.c 3 rfl rfl rfl (OpJ.assign rfl rfl) ?_
  refine AList.nil ?_
  refine AWp.block ?_
  refine AWp.loopH [3, 4, 5, 6, 7, 8, 9, 10, 11, 12, 13, 14] (fun g => [(3, .p (.int .i64 ((g.1 + 1 : Nat) : Int)))]) (fun g => g.2) (fun g => g.1 ≤ allS n ∧ inv g.1 g.2) (fun g => allS n - g.1) (0, h0) ⟨Nat.zero_le _, hi0⟩ (To.sub (Sub.chd (Sub.cons rfl (Sub.nil)))) (fun g hg => ?_)
  obtain ⟨i, hcur⟩ := g
  obtain ⟨hle, hinv⟩ := hg
  dsimp only at hle hinv ⊢
  refine AWp.seq ?_
  refine AWp.seq ?_
  refine AWp.region ?_
  refine AList.c 4 rfl rfl rfl (OpJ.move rfl rfl) ?_
  refine AList.c 5 rfl rfl rfl (OpJ.load rfl rfl ty3 rfl) ?_
  refine AList.c 6 rfl rfl rfl (OpJ.shlN 1 n rfl rfl rfl (by show _ ≤ (64 : Nat); omega) (show ((1 * 2 ^ n : Nat) : Int) ≤ 9223372036854775807 by omega)) ?_
  refine AList.c 7 rfl rfl rfl (OpJ.lss rfl rfl rfl) ?_
  refine AList.c 8 rfl rfl rfl (OpJ.move rfl rfl) ?_
  refine AList.g 9 8 rfl rfl rfl rfl rfl rfl rfl [(0, _)] (fun h => And.intro (.inl rfl) (trivial)) (fun h => (OpJ.move rfl rfl)) ?_
  refine AList.g 10 8 rfl rfl rfl rfl rfl rfl rfl [(3, _)] (fun h => And.intro (.inl rfl) (trivial)) (fun h => (OpJ.move rfl rfl)) ?_
  refine AList.yieldG 11 8 rfl rfl rfl rfl rfl rfl rfl rfl [(9, _), (10, _)] (fun h => And.intro (.inr ⟨_, rfl, h⟩) (And.intro (.inr ⟨_, rfl, h⟩) trivial)) rfl rfl (fun h => hb _ _ _ hinv (setsL_at n i (by have h3 := of_decide_eq_true (eq_of_beq h); omega))) ?_
  intro b2 h2 hq1 hq2
  refine AList.c 12 rfl rfl rfl (OpJ.and_ rfl rfl rfl ?_) ?_
  · first | (intro h; rw [h]; rfl) | (intro h; simp_all)
  refine AList.nil ?_
  refine AWp.cond _ rfl (fun hc0 => ?_) (fun hc0 => ?_)
  · skip
    rw [Bool.and_eq_true] at hc0
    have h3 := of_decide_eq_true hc0.1
    have hq : inv (i + 1) h2 := by
      have h4 := hq1 (by rw [hc0.1]; rfl)
      rwa [if_pos hc0.2] at h4
    refine AWp.skip ?_
    refine AWp.seq ?_
    refine AWp.block ?_
    refine AWp.skip ?_
    refine AWp.region ?_
    refine AList.c 13 rfl rfl rfl (OpJ.move rfl rfl) ?_
    refine AList.c 14 rfl rfl rfl (OpJ.add rfl rfl rfl (i64ok ?_)) ?_
    · omega
    refine AList.c 3 rfl rfl rfl (OpJ.assign rfl rfl) ?_
    refine AList.nil ?_
    refine ⟨(i + 1, h2), ?_, ?_, ?_⟩
    · exact ⟨by dsimp only; omega, hq⟩
    · show allS n - (i + 1) < allS n - i
      omega
    exact To.sub (by repeat (first | exact Sub.nil | refine Sub.cons rfl ?_))
  · skip
    have hend : inv ((setsL n).map fun k => [V.p (.int .i64 ((k : Nat) : Int))]).length h2 ∨ fin h2 := by
      cases e : decide (((i + 1 : Nat) : Int) < ((1 * 2 ^ n : Nat) : Int)) with
      | true =>
        have h4 := hq1 (by rw [e]; rfl)
        have hb2 : b2 = false := by rw [e] at hc0; exact hc0
        rw [if_neg (by rw [hb2]; decide)] at h4
        exact .inr h4
      | false =>
        have h3 := of_decide_eq_false e
        rw [hq2 (by rw [e]; rfl), List.length_map, setsL_length]
        obtain rfl : i = allS n := by omega
        exact .inl hinv
    refine AWp.exit ?_
    exact ⟨.inl rfl, _, resV.none_ rfl, hend⟩
theorem sets_ok (n : Nat) : Pure Try.prog 35 [.int .i64 (n : Int)] (.func (.func 59) [] [.ip [.int .i64 (n : Int)] 0]) := by
  refine Pure.start (N := 4) Try.func35 rfl rfl (Nat.le_of_ble_eq_true rfl) ?_
  refine AWp.seq ?_
  refine AWp.region ?_
  refine AList.c 1 rfl rfl rfl (OpJ.boxImm rfl rfl rfl) ?_
  refine AList.c 2 rfl rfl rfl (OpJ.assign rfl rfl) ?_
  refine AList.nil ?_
  refine AWp.seq ?_
  refine AWp.region ?_
  refine AList.c 3 rfl rfl rfl (OpJ.makeFunc rfl rfl rfl) ?_
  refine AList.c 2 rfl rfl rfl (OpJ.assign rfl rfl) ?_
  refine AList.nil ?_
  refine AWp.ret ?_
  exact Fin.one rfl (rfl)
end Go.Proofs.Ytpamkihpffoflaa
