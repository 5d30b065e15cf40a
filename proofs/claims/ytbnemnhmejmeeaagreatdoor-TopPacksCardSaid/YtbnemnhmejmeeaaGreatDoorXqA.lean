/-
  Small functions: sets.
  Needs, stocks, what so many boxes need.
  What so many boxes need and what lacks most, in the other text.
  What is valid, in the other text.
  How many boxes, in the other text.
  What lacks most, in the other text; what is valid, in the text.
  Stocks.
  What so many boxes need; what lacks most.
-/
import Derived.Test.YtbnemnhmejmeeaaGreatDoorXqF
import Derived.Test.YtbnemnhmejmeeaaGreatDoorRqF
import Derived.Test.YtbnemnhmejmeeaaGreatDoorXqP
section
set_option linter.unusedVariables false
set_option maxRecDepth 100000
set_option maxHeartbeats 4000000
set_option linter.unusedSimpArgs false
namespace Go.Proofs.YtbnemnhmejmeeaaGreatDoor.Bx
open Go.AF
theorem within_ok (n lo hi : Int) : Pure Tryz.prog 83 [.int .i64 n, .int .i64 lo, .int .i64 hi] (.bool (decide (lo ≤ n) && decide (n ≤ hi))) := by
  refine Pure.start (N := 15) Tryz.func83 rfl rfl (Nat.le_of_ble_eq_true rfl) ?_
  refine AWp.seq ?_
  refine AWp.region ?_
  refine AList.c 6 rfl rfl rfl (OpJ.assign rfl rfl) ?_
  refine AList.nil ?_
  refine AWp.seq ?_
  refine AWp.region ?_
  refine AList.c 7 rfl rfl rfl (OpJ.move rfl rfl) ?_
  refine AList.c 8 rfl rfl rfl (OpJ.move rfl rfl) ?_
  refine AList.c 9 rfl rfl rfl (OpJ.leq rfl rfl rfl) ?_
  refine AList.c 10 rfl rfl rfl (OpJ.move rfl rfl) ?_
  refine AList.g 11 10 rfl rfl rfl rfl rfl rfl rfl [(0, _)] (fun h => And.intro (.inl rfl) (trivial)) (fun h => (OpJ.move rfl rfl)) ?_
  refine AList.g 12 10 rfl rfl rfl rfl rfl rfl rfl [(2, _)] (fun h => And.intro (.inl rfl) (trivial)) (fun h => (OpJ.move rfl rfl)) ?_
  refine AList.g 13 10 rfl rfl rfl rfl rfl rfl rfl [(11, _), (12, _)] (fun h => And.intro (.inr ⟨_, rfl, h⟩) (And.intro (.inr ⟨_, rfl, h⟩) (trivial))) (fun h => (OpJ.leq rfl rfl rfl)) ?_
  refine AList.c 14 rfl rfl rfl (OpJ.and_ rfl rfl rfl ?_) ?_
  · first | (intro h; rw [h]; rfl) | (intro h; simp_all)
  refine AList.c 6 rfl rfl rfl (OpJ.assign rfl rfl) ?_
  refine AList.nil ?_
  refine AWp.ret ?_
  exact Fin.one rfl (rfl)
theorem in_ok (n lo hi : Int) : Pure Tryz.prog 40 [.int .i64 n, .int .i64 lo, .int .i64 hi] (.bool (decide (lo ≤ n) && decide (n ≤ hi))) := by
  refine Pure.start (N := 15) Tryz.func40 rfl rfl (Nat.le_of_ble_eq_true rfl) ?_
  refine AWp.seq ?_
  refine AWp.region ?_
  refine AList.c 6 rfl rfl rfl (OpJ.assign rfl rfl) ?_
  refine AList.nil ?_
  refine AWp.seq ?_
  refine AWp.region ?_
  refine AList.c 7 rfl rfl rfl (OpJ.move rfl rfl) ?_
  refine AList.c 8 rfl rfl rfl (OpJ.move rfl rfl) ?_
  refine AList.c 9 rfl rfl rfl (OpJ.leq rfl rfl rfl) ?_
  refine AList.c 10 rfl rfl rfl (OpJ.move rfl rfl) ?_
  refine AList.g 11 10 rfl rfl rfl rfl rfl rfl rfl [(0, _)] (fun h => And.intro (.inl rfl) (trivial)) (fun h => (OpJ.move rfl rfl)) ?_
  refine AList.g 12 10 rfl rfl rfl rfl rfl rfl rfl [(2, _)] (fun h => And.intro (.inl rfl) (trivial)) (fun h => (OpJ.move rfl rfl)) ?_
  refine AList.g 13 10 rfl rfl rfl rfl rfl rfl rfl [(11, _), (12, _)] (fun h => And.intro (.inr ⟨_, rfl, h⟩) (And.intro (.inr ⟨_, rfl, h⟩) (trivial))) (fun h => (OpJ.leq rfl rfl rfl)) ?_
  refine AList.c 14 rfl rfl rfl (OpJ.and_ rfl rfl rfl ?_) ?_
  · first | (intro h; rw [h]; rfl) | (intro h; simp_all)
  refine AList.c 6 rfl rfl rfl (OpJ.assign rfl rfl) ?_
  refine AList.nil ?_
  refine AWp.ret ?_
  exact Fin.one rfl (rfl)
theorem power_ok (n : Nat) (hn : n ≤ 60) : Pure Tryz.prog 41 [.int .i64 (n : Int)] (.int .i64 ((2 ^ n : Nat) : Int)) := by
  refine Pure.start (N := 13) Tryz.func41 rfl rfl (Nat.le_of_ble_eq_true rfl) ?_
  refine AWp.seq ?_
  refine AWp.region ?_
  refine AList.c 2 rfl rfl rfl (OpJ.assign rfl rfl) ?_
  refine AList.nil ?_
  refine AWp.seq ?_
  refine AWp.region ?_
  refine AList.c 3 rfl rfl rfl (OpJ.assign rfl rfl) ?_
  refine AList.nil ?_
  refine AWp.seq ?_
  refine AWp.seq ?_
  refine AWp.region ?_
  refine AList.c 4 rfl rfl rfl (OpJ.assign rfl rfl) ?_
  refine AList.nil ?_
  refine AWp.block ?_
  refine AWp.loopK [3, 4, 5, 6, 7, 8, 9, 10, 11] (fun g => [(4, .p (.int .i64 ((g : Nat) : Int))), (3, .p (.int .i64 ((2 ^ g : Nat) : Int)))]) (fun g => g ≤ n) (fun g => n - g) 0 (Nat.zero_le _) (Sub.cons rfl (Sub.cons rfl (Sub.nil))) (fun i hg => ?_)
  refine AWp.seq ?_
  refine AWp.seq ?_
  refine AWp.region ?_
  refine AList.c 5 rfl rfl rfl (OpJ.move rfl rfl) ?_
  refine AList.c 6 rfl rfl rfl (OpJ.move rfl rfl) ?_
  refine AList.c 7 rfl rfl rfl (OpJ.lss rfl rfl rfl) ?_
  refine AList.nil ?_
  refine AWp.cond _ rfl (fun hc0 => ?_) (fun hc0 => ?_)
  · skip
    have hin : i < n := by simp at hc0; omega
    have hp := pow_le (n := i + 1) (by omega)
    have e2 := Nat.pow_succ 2 i
    refine AWp.skip ?_
    refine AWp.seq ?_
    refine AWp.block ?_
    refine AWp.region ?_
    refine AList.c 10 rfl rfl rfl (OpJ.move rfl rfl) ?_
    refine AList.c 11 rfl rfl rfl (OpJ.mul (m := ((2 ^ (i + 1) : Nat) : Int)) rfl rfl rfl ((i64ok ?_).trans ?_)) ?_
    · omega
    · omega
    refine AList.c 3 rfl rfl rfl (OpJ.assign rfl rfl) ?_
    refine AList.nil ?_
    refine AWp.region ?_
    refine AList.c 8 rfl rfl rfl (OpJ.move rfl rfl) ?_
    refine AList.c 9 rfl rfl rfl (OpJ.add rfl rfl rfl (i64ok ?_)) ?_
    · omega
    refine AList.c 4 rfl rfl rfl (OpJ.assign rfl rfl) ?_
    refine AList.nil ?_
    refine ⟨i + 1, ?_, ?_, ?_⟩
    · omega
    · omega
    exact To.done [] rfl (by repeat (first | exact Sub.nil | refine Sub.cons rfl ?_)) rfl
  · skip
    obtain rfl : i = n := by simp at hc0; omega
    refine AWp.exit ?_
    refine AWp.seq ?_
    refine AWp.region ?_
    refine AList.c 12 rfl rfl rfl (OpJ.move rfl rfl) ?_
    refine AList.c 2 rfl rfl rfl (OpJ.assign rfl rfl) ?_
    refine AList.nil ?_
    refine AWp.ret ?_
    exact Fin.one rfl (rfl)
theorem bhas_ok (s i : Nat) (hs : s ≤ 1152921504606846976) (hi : i ≤ 60) : Pure Tryz.prog 46 [.int .i64 (s : Int), .int .i64 (i : Int)] (.bool (s.testBit i)) := by
  have hd := Nat.div_le_self s (2 ^ i)
  refine Pure.start (N := 10) Tryz.func46 rfl rfl (Nat.le_of_ble_eq_true rfl) ?_
  refine AWp.seq ?_
  refine AWp.region ?_
  refine AList.c 4 rfl rfl rfl (OpJ.assign rfl rfl) ?_
  refine AList.nil ?_
  refine AWp.seq ?_
  refine AWp.region ?_
  refine AList.c 5 rfl rfl rfl (OpJ.move rfl rfl) ?_
  refine AList.c 6 rfl rfl rfl (OpJ.move rfl rfl) ?_
  refine AList.c 7 rfl rfl rfl (OpJ.shrN s i rfl rfl rfl (by first | decide | (show _ ≤ (9223372036854775807 : Int); omega) | (show _ ≤ (4294967295 : Int); omega) | (show _ ≤ (18446744073709551615 : Int); omega) | (show _ ≤ (255 : Int); omega) | (show _ ≤ (65535 : Int); omega))) ?_
  refine AList.c 8 rfl rfl rfl (OpJ.andN (s / 2 ^ i) 1 rfl rfl rfl (by first | (show _ ≤ (9223372036854775807 : Int); omega) | (show _ ≤ (4294967295 : Int); omega) | (show _ ≤ (18446744073709551615 : Int); omega) | (show _ ≤ (255 : Int); omega) | (show _ ≤ (65535 : Int); omega)) (by first | decide | (show _ ≤ (9223372036854775807 : Int); omega) | (show _ ≤ (4294967295 : Int); omega) | (show _ ≤ (18446744073709551615 : Int); omega) | (show _ ≤ (255 : Int); omega) | (show _ ≤ (65535 : Int); omega))) ?_
  refine AList.c 9 rfl rfl rfl (OpJ.eql rfl rfl rfl) ?_
  refine AList.c 4 rfl rfl rfl (OpJ.assign rfl rfl) ?_
  refine AList.nil ?_
  refine AWp.ret ?_
  refine Fin.oneE rfl rfl ?_
  rw [testBit_and1]
theorem meets_ok (s t : Nat) (hs : s ≤ 1152921504606846976) (ht : t ≤ 1152921504606846976) : Pure Tryz.prog 146 [.int .i64 (s : Int), .int .i64 (t : Int)] (.bool (!decide (s &&& t = 0))) := by
  refine Pure.start (N := 9) Tryz.func146 rfl rfl (Nat.le_of_ble_eq_true rfl) ?_
  refine AWp.seq ?_
  refine AWp.region ?_
  refine AList.c 4 rfl rfl rfl (OpJ.assign rfl rfl) ?_
  refine AList.nil ?_
  refine AWp.seq ?_
  refine AWp.region ?_
  refine AList.c 5 rfl rfl rfl (OpJ.move rfl rfl) ?_
  refine AList.c 6 rfl rfl rfl (OpJ.move rfl rfl) ?_
  refine AList.c 7 rfl rfl rfl (OpJ.andN s t rfl rfl rfl (by first | (show _ ≤ (9223372036854775807 : Int); omega) | (show _ ≤ (4294967295 : Int); omega) | (show _ ≤ (18446744073709551615 : Int); omega) | (show _ ≤ (255 : Int); omega) | (show _ ≤ (65535 : Int); omega)) (by first | decide | (show _ ≤ (9223372036854775807 : Int); omega) | (show _ ≤ (4294967295 : Int); omega) | (show _ ≤ (18446744073709551615 : Int); omega) | (show _ ≤ (255 : Int); omega) | (show _ ≤ (65535 : Int); omega))) ?_
  refine AList.c 8 rfl rfl rfl (OpJ.neq rfl rfl rfl) ?_
  refine AList.c 4 rfl rfl rfl (OpJ.assign rfl rfl) ?_
  refine AList.nil ?_
  refine AWp.ret ?_
  refine Fin.oneE rfl rfl ?_
  have e : (((s &&& t : Nat) : Int) = 0) = (s &&& t = 0) := propext ⟨fun h => by omega, fun h => by omega⟩
  simp only [e]
end Go.Proofs.YtbnemnhmejmeeaaGreatDoor.Bx
end

section
set_option linter.unusedVariables false
set_option maxRecDepth 100000
set_option maxHeartbeats 4000000
set_option linter.unusedSimpArgs false
namespace Go.Proofs.YtbnemnhmejmeeaaGreatDoor.Bx
open Go.AF
theorem bsum_ok (v : List Int) (s : Nat) (hv : okV v) (hs : s ≤ 256) : Pure Tryz.prog 132 [.int .i64 (s : Int), intsV v] (.int .i64 (sumS v s)) := by
  have hv8 := hv.1
  refine Pure.start (N := 22) Tryz.func132 rfl rfl (Nat.le_of_ble_eq_true rfl) ?_
  refine AWp.seq ?_
  refine AWp.region ?_
  refine AList.c 4 rfl rfl rfl (OpJ.assign rfl rfl) ?_
  refine AList.nil ?_
  refine AWp.seq ?_
  refine AWp.seq ?_
  refine AWp.region ?_
  refine AList.c 7 rfl rfl rfl (OpJ.move rfl rfl) ?_
  refine AList.c 8 rfl rfl rfl (OpJ.lenSlice rfl rfl sl45 rfl) ?_
  refine AList.c 9 rfl rfl rfl (OpJ.move rfl rfl) ?_
  refine AList.nil ?_
  refine AWp.block ?_
  refine AWp.loopK [4, 5, 6, 9, 10, 11, 12, 13, 14, 15, 16, 17, 18, 19, 20] (fun g => [(9, .p (.int .i64 ((g : Nat) : Int))), (4, .p (.int .i64 (sumN v s g)))]) (fun g => g ≤ v.length) (fun g => v.length - g) 0 (Nat.zero_le _) (Sub.cons rfl (Sub.cons rfl (Sub.nil))) (fun i hg => ?_)
  have p1 := sumN_B hv s i hg
  refine AWp.seq ?_
  refine AWp.region ?_
  refine AList.c 10 rfl rfl rfl (OpJ.lss rfl rfl rfl) ?_
  refine AList.nil ?_
  refine AWp.seq ?_
  refine AWp.cond _ rfl (fun hc0 => ?_) (fun hc0 => ?_)
  · skip
    have hk0 : i < v.length := by simp at hc0; omega
    have hvi := hv.2 v[i] (List.getElem_mem _)
    refine AWp.skip ?_
    refine AWp.seq ?_
    refine AWp.block ?_
    refine AWp.seq ?_
    refine AWp.region ?_
    refine AList.c 11 rfl rfl rfl (OpJ.move rfl rfl) ?_
    refine AList.c 12 rfl rfl rfl (OpJ.indexEl rfl rfl rfl sl45 el45 rfl (fun _ => rfl) (by decide) hk0) ?_
    refine AList.c 13 rfl rfl rfl (OpJ.load rfl rfl ty3 rfl) ?_
    refine AList.c 5 rfl rfl rfl (OpJ.assign rfl rfl) ?_
    refine AList.c 6 rfl rfl rfl (OpJ.assign rfl rfl) ?_
    refine AList.nil ?_
    refine AWp.seq ?_
    refine AWp.region ?_
    refine AList.c 14 rfl rfl rfl (OpJ.move rfl rfl) ?_
    refine AList.c 15 rfl rfl rfl (OpJ.move rfl rfl) ?_
    refine AList.c 16 rfl rfl rfl (OpJ.callP (bhas_ok s i (by omega) (by omega)) rfl rfl rfl rfl rf46) ?_
    refine AList.nil ?_
    refine AWp.cond _ rfl (fun hc1 => ?_) (fun hc1 => ?_)
    · skip
      refine AWp.region ?_
      refine AList.c 17 rfl rfl rfl (OpJ.move rfl rfl) ?_
      refine AList.c 18 rfl rfl rfl (OpJ.move rfl rfl) ?_
      refine AList.c 19 rfl rfl rfl (OpJ.add rfl rfl rfl (i64ok ?_)) ?_
      · omega
      refine AList.c 4 rfl rfl rfl (OpJ.assign rfl rfl) ?_
      refine AList.nil ?_
      refine AWp.region ?_
      refine AList.c 20 rfl rfl rfl (OpJ.add rfl rfl rfl (i64ok ?_)) ?_
      · omega
      refine AList.c 9 rfl rfl rfl (OpJ.move rfl rfl) ?_
      refine AList.nil ?_
      refine ⟨i + 1, ?_, ?_, ?_⟩
      · omega
      · omega
      refine To.done [] rfl ?_ rfl
      refine Sub.cons rfl (Sub.cons ?_ (by repeat (first | exact Sub.nil | refine Sub.cons rfl ?_)))
      rw [sumN_succ hk0, hc1, if_pos rfl]; rfl
    · skip
      refine AWp.skip ?_
      refine AWp.region ?_
      refine AList.c 20 rfl rfl rfl (OpJ.add rfl rfl rfl (i64ok ?_)) ?_
      · omega
      refine AList.c 9 rfl rfl rfl (OpJ.move rfl rfl) ?_
      refine AList.nil ?_
      refine ⟨i + 1, ?_, ?_, ?_⟩
      · omega
      · omega
      refine To.done [] rfl ?_ rfl
      refine Sub.cons rfl (Sub.cons ?_ (by repeat (first | exact Sub.nil | refine Sub.cons rfl ?_)))
      rw [sumN_succ hk0, hc1, if_neg (by decide), Int.add_zero]; rfl
  · skip
    obtain rfl : i = v.length := by simp at hc0; omega
    refine AWp.exit ?_
    refine AWp.seq ?_
    refine AWp.region ?_
    refine AList.c 21 rfl rfl rfl (OpJ.move rfl rfl) ?_
    refine AList.c 4 rfl rfl rfl (OpJ.assign rfl rfl) ?_
    refine AList.nil ?_
    refine AWp.ret ?_
    exact Fin.one rfl (rfl)
end Go.Proofs.YtbnemnhmejmeeaaGreatDoor.Bx
end

section
set_option linter.unusedVariables false
set_option maxRecDepth 100000
set_option maxHeartbeats 4000000
set_option linter.unusedSimpArgs false
namespace Go.Proofs.YtbnemnhmejmeeaaGreatDoor.Bx
open Go.AF
end Go.Proofs.YtbnemnhmejmeeaaGreatDoor.Bx
end

section
set_option linter.unusedVariables false
set_option maxRecDepth 100000
set_option maxHeartbeats 4000000
set_option linter.unusedSimpArgs false
namespace Go.Proofs.YtbnemnhmejmeeaaGreatDoor.Bx
open Go.AF
theorem rvalid_ok (need : List Int) (l : List Pr) (hnl : need.length ≤ bigN) (hll : l.length ≤ bigN) : Pure Tryz.prog 14 [intsV need, rawV l] (.bool (decide (Vld need l))) := by
  unfold bigN at hnl hll
  refine Pure.start (N := 63) Tryz.func14 rfl rfl (Nat.le_of_ble_eq_true rfl) ?_
  refine AWp.seq ?_
  refine AWp.region ?_
  refine AList.c 4 rfl rfl rfl (OpJ.assign rfl rfl) ?_
  refine AList.nil ?_
  refine AWp.seq ?_
  refine AWp.seq ?_
  refine AWp.region ?_
  refine AList.c 8 rfl rfl rfl (OpJ.move rfl rfl) ?_
  refine AList.c 9 rfl rfl rfl (OpJ.lenSlice rfl rfl sl45 rfl) ?_
  refine AList.c 10 rfl rfl rfl (OpJ.callP (in_ok _ _ _) rfl rfl rfl rfl rf40) ?_
  refine AList.c 11 rfl rfl rfl (OpJ.not_ rfl rfl) ?_
  refine AList.c 12 rfl rfl rfl (OpJ.move rfl rfl) ?_
  refine AList.g 13 12 rfl rfl rfl rfl rfl rfl rfl [(1, _)] (fun h => And.intro (.inl rfl) (trivial)) (fun h => (OpJ.move rfl rfl)) ?_
  refine AList.g 14 12 rfl rfl rfl rfl rfl rfl rfl [(13, _)] (fun h => And.intro (.inr ⟨_, rfl, h⟩) (trivial)) (fun h => (OpJ.lenSlice rfl rfl sl50 rfl)) ?_
  refine AList.g 15 12 rfl rfl rfl rfl rfl rfl rfl [(14, _)] (fun h => And.intro (.inr ⟨_, rfl, h⟩) (trivial)) (fun h => (OpJ.gtr rfl rfl rfl)) ?_
  refine AList.c 16 rfl rfl rfl (OpJ.or_ rfl rfl rfl ?_) ?_
  · first | (intro h; rw [h]; rfl) | (intro h; simp_all)
  refine AList.nil ?_
  refine AWp.cond _ rfl (fun hc0 => ?_) (fun hc0 => ?_)
  · skip
    refine AWp.seq ?_
    refine AWp.region ?_
    refine AList.c 4 rfl rfl rfl (OpJ.assign rfl rfl) ?_
    refine AList.nil ?_
    refine AWp.ret ?_
    refine Fin.oneE rfl rfl ?_
    rw [decide_eq_false (p := Vld need l) (fun h => by have h1 := h.1; have h2 := h.2.1; simp at hc0; omega)]
  · skip
    have hn8 : (1 ≤ need.length ∧ need.length ≤ 8) ∧ l.length ≤ 8 := by simp at hc0; omega
    have hp8 := pow8 hn8.1.2
    have hp1 := pow_pos' need.length
    refine AWp.skip ?_
    refine AWp.seq ?_
    refine AWp.region ?_
    refine AList.c 5 rfl rfl rfl (OpJ.assign rfl rfl) ?_
    refine AList.nil ?_
    refine AWp.seq ?_
    refine AWp.seq ?_
    refine AWp.region ?_
    refine AList.c 6 rfl rfl rfl (OpJ.assign rfl rfl) ?_
    refine AList.nil ?_
    refine AWp.block ?_
    refine AWp.loopK [4, 5, 6, 17, 18, 19, 20, 21, 22, 23, 24, 25, 26, 27, 28, 29, 30, 31, 32, 33, 34] (fun g => [(6, .p (.int .i64 ((g : Nat) : Int))), (5, .p (.int .i64 (need.take g).sum))]) (fun g => g ≤ need.length ∧ (∀ x ∈ need.take g, 0 ≤ x ∧ x ≤ 48) ∧ 0 ≤ (need.take g).sum ∧ (need.take g).sum ≤ 48 * (g : Int)) (fun g => need.length - g) 0 ⟨Nat.zero_le _, (fun x hx => by simp at hx), by simp, by simp⟩ (Sub.cons rfl (Sub.cons rfl (Sub.nil))) (fun i hg => ?_)
    obtain ⟨hg1, hg2, hg3, hg4⟩ := hg
    refine AWp.seq ?_
    refine AWp.seq ?_
    refine AWp.region ?_
    refine AList.c 17 rfl rfl rfl (OpJ.move rfl rfl) ?_
    refine AList.c 18 rfl rfl rfl (OpJ.move rfl rfl) ?_
    refine AList.c 19 rfl rfl rfl (OpJ.lenSlice rfl rfl sl45 rfl) ?_
    refine AList.c 20 rfl rfl rfl (OpJ.lss rfl rfl rfl) ?_
    refine AList.nil ?_
    refine AWp.cond _ rfl (fun hc1 => ?_) (fun hc1 => ?_)
    · skip
      have hk0 : i < need.length := by have h := of_decide_eq_true hc1; omega
      refine AWp.skip ?_
      refine AWp.seq ?_
      refine AWp.block ?_
      refine AWp.seq ?_
      refine AWp.seq ?_
      refine AWp.region ?_
      refine AList.c 23 rfl rfl rfl (OpJ.move rfl rfl) ?_
      refine AList.c 24 rfl rfl rfl (OpJ.move rfl rfl) ?_
      refine AList.c 25 rfl rfl rfl (OpJ.indexEl rfl rfl rfl sl45 el45 rfl (fun _ => rfl) (by decide) hk0) ?_
      refine AList.c 26 rfl rfl rfl (OpJ.load rfl rfl ty3 rfl) ?_
      refine AList.c 27 rfl rfl rfl (OpJ.callP (in_ok _ _ _) rfl rfl rfl rfl rf40) ?_
      refine AList.c 28 rfl rfl rfl (OpJ.not_ rfl rfl) ?_
      refine AList.nil ?_
      refine AWp.cond _ rfl (fun hc2 => ?_) (fun hc2 => ?_)
      · skip
        refine AWp.seq ?_
        refine AWp.region ?_
        refine AList.c 4 rfl rfl rfl (OpJ.assign rfl rfl) ?_
        refine AList.nil ?_
        refine AWp.ret ?_
        refine Fin.oneE rfl rfl ?_
        rw [decide_eq_false (p := Vld need l) (fun h => by have h1 := h.2.2.1 need[i] (List.getElem_mem _); simp at hc2; omega)]
      · skip
        have hni : 0 ≤ need[i] ∧ need[i] ≤ 48 := by simp at hc2; exact hc2
        have hts := take_sum hk0
        refine AWp.skip ?_
        refine AWp.region ?_
        refine AList.c 29 rfl rfl rfl (OpJ.move rfl rfl) ?_
        refine AList.c 30 rfl rfl rfl (OpJ.move rfl rfl) ?_
        refine AList.c 31 rfl rfl rfl (OpJ.move rfl rfl) ?_
        refine AList.c 32 rfl rfl rfl (OpJ.indexEl rfl rfl rfl sl45 el45 rfl (fun _ => rfl) (by decide) hk0) ?_
        refine AList.c 33 rfl rfl rfl (OpJ.load rfl rfl ty3 rfl) ?_
        refine AList.c 34 rfl rfl rfl (OpJ.add rfl rfl rfl (i64ok ?_)) ?_
        · omega
        refine AList.c 5 rfl rfl rfl (OpJ.assign rfl rfl) ?_
        refine AList.nil ?_
        refine AWp.region ?_
        refine AList.c 21 rfl rfl rfl (OpJ.move rfl rfl) ?_
        refine AList.c 22 rfl rfl rfl (OpJ.add rfl rfl rfl (i64ok ?_)) ?_
        · omega
        refine AList.c 6 rfl rfl rfl (OpJ.assign rfl rfl) ?_
        refine AList.nil ?_
        refine ⟨i + 1, ?_, ?_, ?_⟩
        · exact ⟨by omega, okN_take hk0 hg2 hni, by omega, by omega⟩
        · omega
        refine To.done [] rfl ?_ rfl
        refine Sub.cons rfl (Sub.cons ?_ (by repeat (first | exact Sub.nil | refine Sub.cons rfl ?_)))
        rw [hts]; rfl
    · skip
      obtain rfl : i = need.length := by have h := of_decide_eq_false hc1; omega
      have hN : okN need := fun x hx => hg2 x (by rw [List.take_length]; exact hx)
      refine AWp.exit ?_
      refine AWp.seq ?_
      refine AWp.seq ?_
      refine AWp.region ?_
      refine AList.c 7 rfl rfl rfl (OpJ.assign rfl rfl) ?_
      refine AList.nil ?_
      refine AWp.block ?_
      refine AWp.loopK [4, 7, 35, 36, 37, 38, 39, 40, 41, 42, 43, 44, 45, 46, 47, 48, 49, 50, 51, 52, 53, 54, 55, 56, 57, 58, 59, 60] (fun g => [(7, .p (.int .i64 ((g : Nat) : Int)))]) (fun g => g ≤ l.length ∧ ∀ p ∈ l.take g, okPr need.length p) (fun g => l.length - g) 0 ⟨Nat.zero_le _, fun x hx => by simp at hx⟩ (Sub.cons rfl (Sub.nil)) (fun j hh => ?_)
      obtain ⟨hh1, hh2⟩ := hh
      refine AWp.seq ?_
      refine AWp.seq ?_
      refine AWp.region ?_
      refine AList.c 35 rfl rfl rfl (OpJ.move rfl rfl) ?_
      refine AList.c 36 rfl rfl rfl (OpJ.move rfl rfl) ?_
      refine AList.c 37 rfl rfl rfl (OpJ.lenSlice rfl rfl sl50 rfl) ?_
      refine AList.c 38 rfl rfl rfl (OpJ.lss rfl rfl rfl) ?_
      refine AList.nil ?_
      refine AWp.cond _ rfl (fun hc3 => ?_) (fun hc3 => ?_)
      · skip
        have hk1 : j < l.length := by have h := of_decide_eq_true hc3; omega
        refine AWp.skip ?_
        refine AWp.seq ?_
        refine AWp.block ?_
        refine AWp.seq ?_
        refine AWp.regionDraw 20 mixed (by kernel_rfl) (by decide) ?_
        refine AQuiet.cons 41 rfl rfl rfl (OpJ.move rfl rfl) ?_
        refine AQuiet.cons 42 rfl rfl rfl (OpJ.move rfl rfl) ?_
        refine AQuiet.cons 43 rfl rfl rfl (OpJ.indexEl rfl rfl rfl sl50 el50 rfl (fun _ => rfl) (by decide) hk1) ?_
        refine AQuiet.cons 44 rfl rfl rfl (OpJ.fieldAddr rfl rfl fd105_0 rfl) ?_
        refine AQuiet.cons 45 rfl rfl rfl (OpJ.load rfl rfl ty3 rfl) ?_
        refine AQuiet.cons 46 rfl rfl rfl (OpJ.move rfl rfl) ?_
        refine AQuiet.cons 47 rfl rfl rfl (OpJ.lenSlice rfl rfl sl45 rfl) ?_
        refine AQuiet.cons 48 rfl rfl rfl (OpJ.callP (power_ok need.length (by omega)) rfl rfl rfl rfl rf41) ?_
        refine AQuiet.cons 49 rfl rfl rfl (OpJ.sub_ rfl rfl rfl (i64ok ?_)) ?_
        · omega
        refine AQuiet.cons 50 rfl rfl rfl (OpJ.callP (in_ok _ _ _) rfl rfl rfl rfl rf40) ?_
        refine AQuiet.cons 51 rfl rfl rfl (OpJ.not_ rfl rfl) ?_
        refine AQuiet.cons 52 rfl rfl rfl (OpJ.move rfl rfl) ?_
        refine AQuiet.guard 53 52 rfl rfl rfl rfl rfl rfl rfl [(1, _)] (fun h => And.intro (.inl rfl) (trivial)) (fun h => (OpJ.move rfl rfl)) ?_
        refine AQuiet.guard 54 52 rfl rfl rfl rfl rfl rfl rfl [(7, _)] (fun h => And.intro (.inl rfl) (trivial)) (fun h => (OpJ.move rfl rfl)) ?_
        refine AQuiet.guard 55 52 rfl rfl rfl rfl rfl rfl rfl [(53, _), (54, _)] (fun h => And.intro (.inr ⟨_, rfl, h⟩) (And.intro (.inr ⟨_, rfl, h⟩) (trivial))) (fun h => (OpJ.indexEl rfl rfl rfl sl50 el50 rfl (fun _ => rfl) (by decide) hk1)) ?_
        refine AQuiet.guard 56 52 rfl rfl rfl rfl rfl rfl rfl [(55, _)] (fun h => And.intro (.inr ⟨_, rfl, h⟩) (trivial)) (fun h => (OpJ.fieldAddr rfl rfl fd105_1 rfl)) ?_
        refine AQuiet.guard 57 52 rfl rfl rfl rfl rfl rfl rfl [(56, _)] (fun h => And.intro (.inr ⟨_, rfl, h⟩) (trivial)) (fun h => (OpJ.load rfl rfl ty3 rfl)) ?_
        refine AQuiet.guard 58 52 rfl rfl rfl rfl rfl rfl rfl [(57, _)] (fun h => And.intro (.inr ⟨_, rfl, h⟩) (trivial)) (fun h => (OpJ.callP (in_ok _ _ _) rfl rfl rfl rfl rf40)) ?_
        refine AQuiet.guard 59 52 rfl rfl rfl rfl rfl rfl rfl [(58, _)] (fun h => And.intro (.inr ⟨_, rfl, h⟩) (trivial)) (fun h => (OpJ.not_ rfl rfl)) ?_
        refine AQuiet.cons 60 rfl rfl rfl (OpJ.or_ rfl rfl rfl ?_) ?_
        · first | (intro h; rw [h]; rfl) | (intro h; simp_all)
        refine AQuiet.nil ?_
        refine AList.nil ?_
        refine AWp.cond _ rfl (fun hc4 => ?_) (fun hc4 => ?_)
        · skip
          refine AWp.seq ?_
          refine AWp.region ?_
          refine AList.c 4 rfl rfl rfl (OpJ.assign rfl rfl) ?_
          refine AList.nil ?_
          refine AWp.ret ?_
          refine Fin.oneE rfl rfl ?_
          rw [decide_eq_false (p := Vld need l) (fun h => by have h1 := h.2.2.2.1 l[j] (List.getElem_mem _); unfold okPr at h1; push_cast at h1; simp at hc4; omega)]
        · skip
          have hpj : okPr need.length l[j] := by simp at hc4; exact hc4
          refine AWp.skip ?_
          refine AWp.region ?_
          refine AList.c 39 rfl rfl rfl (OpJ.move rfl rfl) ?_
          refine AList.c 40 rfl rfl rfl (OpJ.add rfl rfl rfl (i64ok ?_)) ?_
          · omega
          refine AList.c 7 rfl rfl rfl (OpJ.assign rfl rfl) ?_
          refine AList.nil ?_
          refine ⟨j + 1, ?_, ?_, ?_⟩
          · exact ⟨by omega, okP_take hk1 hh2 hpj⟩
          · omega
          exact To.done [] rfl (by repeat (first | exact Sub.nil | refine Sub.cons rfl ?_)) rfl
      · skip
        obtain rfl : j = l.length := by have h := of_decide_eq_false hc3; omega
        refine AWp.exit ?_
        refine AWp.seq ?_
        refine AWp.region ?_
        refine AList.c 61 rfl rfl rfl (OpJ.move rfl rfl) ?_
        refine AList.c 62 rfl rfl rfl (OpJ.gtr rfl rfl rfl) ?_
        refine AList.c 4 rfl rfl rfl (OpJ.assign rfl rfl) ?_
        refine AList.nil ?_
        refine AWp.ret ?_
        refine Fin.oneE rfl rfl ?_
        have e : decide (Vld need l) = decide (0 < need.sum) := by
          rw [List.take_length] at hh2
          exact decide_eq_decide.2 ⟨fun h => h.2.2.2.2, fun h => ⟨hn8.1, hn8.2, hN, hh2, h⟩⟩
        rw [e]
        simp only [List.take_length]
end Go.Proofs.YtbnemnhmejmeeaaGreatDoor.Bx
end

section
set_option linter.unusedVariables false
set_option maxRecDepth 100000
set_option maxHeartbeats 4000000
set_option linter.unusedSimpArgs false
namespace Go.Proofs.YtbnemnhmejmeeaaGreatDoor.Bx
open Go.AF
end Go.Proofs.YtbnemnhmejmeeaaGreatDoor.Bx
end

section
set_option linter.unusedVariables false
set_option maxRecDepth 100000
set_option maxHeartbeats 4000000
set_option linter.unusedSimpArgs false
namespace Go.Proofs.YtbnemnhmejmeeaaGreatDoor.Bx
open Go.AF
theorem indexFI_ok (xs : List Int) (f : PV) (p : Int → Bool) (hx : xs.length ≤ bigN) (hf : ∀ x ∈ xs, FPure Tryz.prog f [.int .i64 x] (.bool (p x))) : Pure Tryz.prog 130 [.is (xs.flatMap i1) xs.length, f] (.int .i64 (idxF p xs)) := by
  unfold bigN at hx
  refine Pure.start (N := 19) Tryz.func130 rfl rfl (Nat.le_of_ble_eq_true rfl) ?_
  refine AWp.seq ?_
  refine AWp.region ?_
  refine AList.c 4 rfl rfl rfl (OpJ.assign rfl rfl) ?_
  refine AList.nil ?_
  refine AWp.seq ?_
  refine AWp.seq ?_
  refine AWp.region ?_
  refine AList.c 6 rfl rfl rfl (OpJ.move rfl rfl) ?_
  refine AList.c 7 rfl rfl rfl (OpJ.lenSlice rfl rfl sl45 rfl) ?_
  refine AList.c 8 rfl rfl rfl (OpJ.move rfl rfl) ?_
  refine AList.nil ?_
  refine AWp.block ?_
  refine AWp.loopK [4, 5, 8, 9, 10, 11, 12, 13, 14, 15, 16, 17, 18] (fun g => [(8, .p (.int .i64 ((g : Nat) : Int)))]) (fun g => g ≤ xs.length ∧ ∀ j (hj : j < g) (h : g ≤ xs.length), p (xs[j]'(by omega)) = false) (fun g => xs.length - g) 0 ⟨Nat.zero_le _, fun j hj => absurd hj (by omega)⟩ (Sub.cons rfl (Sub.nil)) (fun i hg => ?_)
  obtain ⟨hg1, hg2⟩ := hg
  refine AWp.seq ?_
  refine AWp.region ?_
  refine AList.c 9 rfl rfl rfl (OpJ.lss rfl rfl rfl) ?_
  refine AList.nil ?_
  refine AWp.seq ?_
  refine AWp.cond _ rfl (fun hc0 => ?_) (fun hc0 => ?_)
  · skip
    refine AWp.skip ?_
    refine AWp.seq ?_
    refine AWp.block ?_
    refine AWp.seq ?_
    refine AWp.region ?_
    refine AList.c 10 rfl rfl rfl (OpJ.move rfl rfl) ?_
    refine AList.c 5 rfl rfl rfl (OpJ.assign rfl rfl) ?_
    refine AList.nil ?_
    refine AWp.seq ?_
    refine AWp.region ?_
    refine AList.c 11 rfl rfl rfl (OpJ.move rfl rfl) ?_
    refine AList.c 12 rfl rfl rfl (OpJ.move rfl rfl) ?_
    refine AList.c 13 rfl rfl rfl (OpJ.move rfl rfl) ?_
    refine AList.c 14 rfl rfl rfl (OpJ.indexEl rfl rfl rfl sl45 el45 rfl (fun _ => rfl) (by decide) ?_) ?_
    · simp at hc0; omega
    refine AList.c 15 rfl rfl rfl (OpJ.load rfl rfl ty3 rfl) ?_
    refine AList.c 16 rfl rfl rfl (OpJ.callF (hf _ (List.getElem_mem _)) rfl rfl rfl) ?_
    refine AList.nil ?_
    refine AWp.cond _ rfl (fun hc1 => ?_) (fun hc1 => ?_)
    · skip
      refine AWp.seq ?_
      refine AWp.region ?_
      refine AList.c 17 rfl rfl rfl (OpJ.move rfl rfl) ?_
      refine AList.c 4 rfl rfl rfl (OpJ.assign rfl rfl) ?_
      refine AList.nil ?_
      refine AWp.ret ?_
      refine Fin.oneE rfl rfl ?_
      rw [idxF_at p xs i (by simp at hc0; omega) (fun j hj => hg2 j hj hg1) hc1]
    · skip
      refine AWp.skip ?_
      refine AWp.region ?_
      refine AList.c 18 rfl rfl rfl (OpJ.add rfl rfl rfl (i64ok ?_)) ?_
      · simp at hc0; omega
      refine AList.c 8 rfl rfl rfl (OpJ.move rfl rfl) ?_
      refine AList.nil ?_
      refine ⟨i + 1, ?_, ?_, ?_⟩
      · refine ⟨by simp at hc0; omega, fun j hj h => ?_⟩
        rcases Nat.lt_succ_iff_lt_or_eq.1 hj with h1 | rfl
        · exact hg2 j h1 hg1
        · exact hc1
      · simp at hc0; omega
      exact To.done [] rfl (by repeat (first | exact Sub.nil | refine Sub.cons rfl ?_)) rfl
  · skip
    refine AWp.exit ?_
    refine AWp.seq ?_
    refine AWp.region ?_
    refine AList.c 4 rfl rfl rfl (OpJ.assign rfl rfl) ?_
    refine AList.nil ?_
    refine AWp.ret ?_
    refine Fin.oneE rfl rfl ?_
    rw [idxF_none p xs (fun j hj => hg2 j (by simp at hc0; omega) hg1)]
theorem indexFP_ok (xs : List Pr) (f : PV) (p : Pr → Bool) (hx : xs.length ≤ bigN) (hf : ∀ x ∈ xs, FPure Tryz.prog f [.agg x.cells] (.bool (p x))) : Pure Tryz.prog 131 [.is (xs.flatMap Pr.cells) xs.length, f] (.int .i64 (idxF p xs)) := by
  unfold bigN at hx
  refine Pure.start (N := 19) Tryz.func131 rfl rfl (Nat.le_of_ble_eq_true rfl) ?_
  refine AWp.seq ?_
  refine AWp.region ?_
  refine AList.c 4 rfl rfl rfl (OpJ.assign rfl rfl) ?_
  refine AList.nil ?_
  refine AWp.seq ?_
  refine AWp.seq ?_
  refine AWp.region ?_
  refine AList.c 6 rfl rfl rfl (OpJ.move rfl rfl) ?_
  refine AList.c 7 rfl rfl rfl (OpJ.lenSlice rfl rfl sl50 rfl) ?_
  refine AList.c 8 rfl rfl rfl (OpJ.move rfl rfl) ?_
  refine AList.nil ?_
  refine AWp.block ?_
  refine AWp.loopK [4, 5, 8, 9, 10, 11, 12, 13, 14, 15, 16, 17, 18] (fun g => [(8, .p (.int .i64 ((g : Nat) : Int)))]) (fun g => g ≤ xs.length ∧ ∀ j (hj : j < g) (h : g ≤ xs.length), p (xs[j]'(by omega)) = false) (fun g => xs.length - g) 0 ⟨Nat.zero_le _, fun j hj => absurd hj (by omega)⟩ (Sub.cons rfl (Sub.nil)) (fun i hg => ?_)
  obtain ⟨hg1, hg2⟩ := hg
  refine AWp.seq ?_
  refine AWp.region ?_
  refine AList.c 9 rfl rfl rfl (OpJ.lss rfl rfl rfl) ?_
  refine AList.nil ?_
  refine AWp.seq ?_
  refine AWp.cond _ rfl (fun hc0 => ?_) (fun hc0 => ?_)
  · skip
    refine AWp.skip ?_
    refine AWp.seq ?_
    refine AWp.block ?_
    refine AWp.seq ?_
    refine AWp.region ?_
    refine AList.c 10 rfl rfl rfl (OpJ.move rfl rfl) ?_
    refine AList.c 5 rfl rfl rfl (OpJ.assign rfl rfl) ?_
    refine AList.nil ?_
    refine AWp.seq ?_
    refine AWp.region ?_
    refine AList.c 11 rfl rfl rfl (OpJ.move rfl rfl) ?_
    refine AList.c 12 rfl rfl rfl (OpJ.move rfl rfl) ?_
    refine AList.c 13 rfl rfl rfl (OpJ.move rfl rfl) ?_
    refine AList.c 14 rfl rfl rfl (OpJ.indexEl rfl rfl rfl sl50 el50 rfl (fun _ => rfl) (by decide) ?_) ?_
    · simp at hc0; omega
    refine AList.c 15 rfl rfl rfl (OpJ.load rfl rfl ty105 rfl) ?_
    refine AList.c 16 rfl rfl rfl (OpJ.callF (hf _ (List.getElem_mem _)) rfl rfl rfl) ?_
    refine AList.nil ?_
    refine AWp.cond _ rfl (fun hc1 => ?_) (fun hc1 => ?_)
    · skip
      refine AWp.seq ?_
      refine AWp.region ?_
      refine AList.c 17 rfl rfl rfl (OpJ.move rfl rfl) ?_
      refine AList.c 4 rfl rfl rfl (OpJ.assign rfl rfl) ?_
      refine AList.nil ?_
      refine AWp.ret ?_
      refine Fin.oneE rfl rfl ?_
      rw [idxF_at p xs i (by simp at hc0; omega) (fun j hj => hg2 j hj hg1) hc1]
    · skip
      refine AWp.skip ?_
      refine AWp.region ?_
      refine AList.c 18 rfl rfl rfl (OpJ.add rfl rfl rfl (i64ok ?_)) ?_
      · simp at hc0; omega
      refine AList.c 8 rfl rfl rfl (OpJ.move rfl rfl) ?_
      refine AList.nil ?_
      refine ⟨i + 1, ?_, ?_, ?_⟩
      · refine ⟨by simp at hc0; omega, fun j hj h => ?_⟩
        rcases Nat.lt_succ_iff_lt_or_eq.1 hj with h1 | rfl
        · exact hg2 j h1 hg1
        · exact hc1
      · simp at hc0; omega
      exact To.done [] rfl (by repeat (first | exact Sub.nil | refine Sub.cons rfl ?_)) rfl
  · skip
    refine AWp.exit ?_
    refine AWp.seq ?_
    refine AWp.region ?_
    refine AList.c 4 rfl rfl rfl (OpJ.assign rfl rfl) ?_
    refine AList.nil ?_
    refine AWp.ret ?_
    refine Fin.oneE rfl rfl ?_
    rw [idxF_none p xs (fun j hj => hg2 j (by simp at hc0; omega) hg1)]
theorem containsFI_ok (xs : List Int) (f : PV) (p : Int → Bool) (hx : xs.length ≤ bigN) (hf : ∀ x ∈ xs, FPure Tryz.prog f [.int .i64 x] (.bool (p x))) : Pure Tryz.prog 110 [.is (xs.flatMap i1) xs.length, f] (.bool (xs.any p)) := by
  refine Pure.start (N := 9) Tryz.func110 rfl rfl (Nat.le_of_ble_eq_true rfl) ?_
  refine AWp.seq ?_
  refine AWp.region ?_
  refine AList.c 4 rfl rfl rfl (OpJ.assign rfl rfl) ?_
  refine AList.nil ?_
  refine AWp.seq ?_
  refine AWp.region ?_
  refine AList.c 5 rfl rfl rfl (OpJ.move rfl rfl) ?_
  refine AList.c 6 rfl rfl rfl (OpJ.move rfl rfl) ?_
  refine AList.c 7 rfl rfl rfl (OpJ.callP (indexFI_ok _ _ p ?_ ?_) rfl rfl rfl rfl rf130) ?_
  · exact hx
  · exact hf
  refine AList.c 8 rfl rfl rfl (OpJ.geq rfl rfl rfl) ?_
  refine AList.c 4 rfl rfl rfl (OpJ.assign rfl rfl) ?_
  refine AList.nil ?_
  refine AWp.ret ?_
  refine Fin.oneE rfl rfl ?_
  rw [idxF_any]
theorem containsFP_ok (xs : List Pr) (f : PV) (p : Pr → Bool) (hx : xs.length ≤ bigN) (hf : ∀ x ∈ xs, FPure Tryz.prog f [.agg x.cells] (.bool (p x))) : Pure Tryz.prog 111 [.is (xs.flatMap Pr.cells) xs.length, f] (.bool (xs.any p)) := by
  refine Pure.start (N := 9) Tryz.func111 rfl rfl (Nat.le_of_ble_eq_true rfl) ?_
  refine AWp.seq ?_
  refine AWp.region ?_
  refine AList.c 4 rfl rfl rfl (OpJ.assign rfl rfl) ?_
  refine AList.nil ?_
  refine AWp.seq ?_
  refine AWp.region ?_
  refine AList.c 5 rfl rfl rfl (OpJ.move rfl rfl) ?_
  refine AList.c 6 rfl rfl rfl (OpJ.move rfl rfl) ?_
  refine AList.c 7 rfl rfl rfl (OpJ.callP (indexFP_ok _ _ p ?_ ?_) rfl rfl rfl rfl rf131) ?_
  · exact hx
  · exact hf
  refine AList.c 8 rfl rfl rfl (OpJ.geq rfl rfl rfl) ?_
  refine AList.c 4 rfl rfl rfl (OpJ.assign rfl rfl) ?_
  refine AList.nil ?_
  refine AWp.ret ?_
  refine Fin.oneE rfl rfl ?_
  rw [idxF_any]
theorem isValid1_ok (x : Int) : Pure Tryz.prog 108 [.int .i64 x] (.bool (nBad x)) := by
  refine Pure.start (N := 6) Tryz.func108 rfl rfl (Nat.le_of_ble_eq_true rfl) ?_
  refine AWp.seq ?_
  refine AWp.region ?_
  refine AList.c 2 rfl rfl rfl (OpJ.assign rfl rfl) ?_
  refine AList.nil ?_
  refine AWp.seq ?_
  refine AWp.region ?_
  refine AList.c 3 rfl rfl rfl (OpJ.move rfl rfl) ?_
  refine AList.c 4 rfl rfl rfl (OpJ.callP (within_ok _ _ _) rfl rfl rfl rfl rf83) ?_
  refine AList.c 5 rfl rfl rfl (OpJ.not_ rfl rfl) ?_
  refine AList.c 2 rfl rfl rfl (OpJ.assign rfl rfl) ?_
  refine AList.nil ?_
  refine AWp.ret ?_
  exact Fin.one rfl (rfl)
theorem isValid2_ok (need : List Int) (p : Pr) (h8 : need.length ≤ 8) : Pure Tryz.prog 109 [.agg p.cells, .ip [intsV need] 0] (.bool (pBad need.length p)) := by
  have hp := pow8 h8
  refine Pure.start (N := 18) Tryz.func109 rfl rfl (Nat.le_of_ble_eq_true rfl) ?_
  refine AWp.seq ?_
  refine AWp.region ?_
  refine AList.c 2 rfl rfl rfl (OpJ.boxImm rfl rfl rfl) ?_
  refine AList.c 3 rfl rfl rfl (OpJ.assign rfl rfl) ?_
  refine AList.nil ?_
  refine AWp.seq ?_
  refine AWp.regionDraw 15 mixed (by kernel_rfl) (by decide) ?_
  refine AQuiet.cons 4 rfl rfl rfl (OpJ.fieldAddr rfl rfl fd105_0 rfl) ?_
  refine AQuiet.cons 5 rfl rfl rfl (OpJ.load rfl rfl ty3 rfl) ?_
  refine AQuiet.cons 6 rfl rfl rfl (OpJ.load rfl rfl ty45 rfl) ?_
  refine AQuiet.cons 7 rfl rfl rfl (OpJ.lenSlice rfl rfl sl45 rfl) ?_
  refine AQuiet.cons 8 rfl rfl rfl (OpJ.shlN 1 need.length rfl rfl rfl (by show _ ≤ (64 : Nat); omega) (show ((1 * 2 ^ need.length : Nat) : Int) ≤ 9223372036854775807 by omega)) ?_
  refine AQuiet.cons 9 rfl rfl rfl (OpJ.sub_ rfl rfl rfl (i64ok ?_)) ?_
  · omega
  refine AQuiet.cons 10 rfl rfl rfl (OpJ.callP (within_ok _ _ _) rfl rfl rfl rfl rf83) ?_
  refine AQuiet.cons 11 rfl rfl rfl (OpJ.not_ rfl rfl) ?_
  refine AQuiet.cons 12 rfl rfl rfl (OpJ.move rfl rfl) ?_
  refine AQuiet.guard 13 12 rfl rfl rfl rfl rfl rfl rfl [(2, _)] (fun h => And.intro (.inl rfl) (trivial)) (fun h => (OpJ.fieldAddr rfl rfl fd105_1 rfl)) ?_
  refine AQuiet.guard 14 12 rfl rfl rfl rfl rfl rfl rfl [(13, _)] (fun h => And.intro (.inr ⟨_, rfl, h⟩) (trivial)) (fun h => (OpJ.load rfl rfl ty3 rfl)) ?_
  refine AQuiet.guard 15 12 rfl rfl rfl rfl rfl rfl rfl [(14, _)] (fun h => And.intro (.inr ⟨_, rfl, h⟩) (trivial)) (fun h => (OpJ.callP (within_ok _ _ _) rfl rfl rfl rfl rf83)) ?_
  refine AQuiet.guard 16 12 rfl rfl rfl rfl rfl rfl rfl [(15, _)] (fun h => And.intro (.inr ⟨_, rfl, h⟩) (trivial)) (fun h => (OpJ.not_ rfl rfl)) ?_
  refine AQuiet.cons 17 rfl rfl rfl (OpJ.or_ rfl rfl rfl ?_) ?_
  · first | (intro h; rw [h]; rfl) | (intro h; simp_all)
  refine AQuiet.cons 3 rfl rfl rfl (OpJ.assign rfl rfl) ?_
  refine AQuiet.nil ?_
  refine AList.nil ?_
  refine AWp.ret ?_
  refine Fin.oneE rfl rfl ?_
  rw [Nat.one_mul]; rfl
theorem sMax_ok (v : List Int) (h0 : 0 < v.length) (h1 : v.length ≤ bigN) : Pure Tryz.prog 112 [intsV v] (.int .i64 (mxF v (v.length - 1))) := by
  unfold bigN at h1
  refine Pure.start (N := 25) Tryz.func112 rfl rfl (Nat.le_of_ble_eq_true rfl) ?_
  refine AWp.seq ?_
  refine AWp.region ?_
  refine AList.c 2 rfl rfl rfl (OpJ.assign rfl rfl) ?_
  refine AList.nil ?_
  refine AWp.seq ?_
  refine AWp.seq ?_
  refine AWp.region ?_
  refine AList.c 5 rfl rfl rfl (OpJ.move rfl rfl) ?_
  refine AList.c 6 rfl rfl rfl (OpJ.lenSlice rfl rfl sl45 rfl) ?_
  refine AList.c 7 rfl rfl rfl (OpJ.lss rfl rfl rfl) ?_
  refine AList.nil ?_
  refine AWp.cond _ rfl (fun hc0 => ?_) (fun hc0 => ?_)
  · skip
    have h := of_decide_eq_true hc0
    omega
  · skip
    refine AWp.skip ?_
    refine AWp.seq ?_
    refine AWp.region ?_
    refine AList.c 9 rfl rfl rfl (OpJ.move rfl rfl) ?_
    refine AList.c 10 rfl rfl rfl (OpJ.indexEl rfl rfl rfl sl45 el45 rfl (fun _ => rfl) (by decide) h0) ?_
    refine AList.c 11 rfl rfl rfl (OpJ.load rfl rfl ty3 rfl) ?_
    refine AList.c 3 rfl rfl rfl (OpJ.assign rfl rfl) ?_
    refine AList.nil ?_
    refine AWp.seq ?_
    refine AWp.seq ?_
    have e0 : v[0]?.getD 0 = v[0] := by rw [List.getElem?_eq_getElem h0, Option.getD_some]
    refine AWp.region ?_
    refine AList.c 4 rfl rfl rfl (OpJ.assign rfl rfl) ?_
    refine AList.nil ?_
    refine AWp.block ?_
    refine AWp.loopK [3, 4, 12, 13, 14, 15, 16, 17, 18, 19, 20, 21, 22, 23] (fun g => [(4, .p (.int .i64 ((g + 1 : Nat) : Int))), (3, .p (.int .i64 (mxF v g)))]) (fun g => g + 1 ≤ v.length) (fun g => v.length - (g + 1)) 0 h0 (Sub.cons rfl (Sub.cons (by rw [mxF, e0]; rfl) Sub.nil)) (fun i hg => ?_)
    refine AWp.seq ?_
    refine AWp.seq ?_
    refine AWp.region ?_
    refine AList.c 12 rfl rfl rfl (OpJ.move rfl rfl) ?_
    refine AList.c 13 rfl rfl rfl (OpJ.move rfl rfl) ?_
    refine AList.c 14 rfl rfl rfl (OpJ.lenSlice rfl rfl sl45 rfl) ?_
    refine AList.c 15 rfl rfl rfl (OpJ.lss rfl rfl rfl) ?_
    refine AList.nil ?_
    refine AWp.cond _ rfl (fun hc1 => ?_) (fun hc1 => ?_)
    · skip
      have hk0 : i + 1 < v.length := by have h := of_decide_eq_true hc1; omega
      refine AWp.skip ?_
      refine AWp.seq ?_
      refine AWp.block ?_
      refine AWp.region ?_
      refine AList.c 18 rfl rfl rfl (OpJ.move rfl rfl) ?_
      refine AList.c 19 rfl rfl rfl (OpJ.move rfl rfl) ?_
      refine AList.c 20 rfl rfl rfl (OpJ.move rfl rfl) ?_
      refine AList.c 21 rfl rfl rfl (OpJ.indexEl rfl rfl rfl sl45 el45 rfl (fun _ => rfl) (by decide) hk0) ?_
      refine AList.c 22 rfl rfl rfl (OpJ.load rfl rfl ty3 rfl) ?_
      refine AList.c 23 rfl rfl rfl (OpJ.max2 rfl rfl rfl) ?_
      refine AList.c 3 rfl rfl rfl (OpJ.assign rfl rfl) ?_
      refine AList.nil ?_
      refine AWp.region ?_
      refine AList.c 16 rfl rfl rfl (OpJ.move rfl rfl) ?_
      refine AList.c 17 rfl rfl rfl (OpJ.add rfl rfl rfl (i64ok ?_)) ?_
      · omega
      refine AList.c 4 rfl rfl rfl (OpJ.assign rfl rfl) ?_
      refine AList.nil ?_
      refine ⟨i + 1, ?_, ?_, ?_⟩
      · omega
      · omega
      refine To.done [] rfl ?_ rfl
      refine Sub.cons rfl (Sub.cons ?_ (by repeat (first | exact Sub.nil | refine Sub.cons rfl ?_)))
      rw [mxF, List.getElem?_eq_getElem hk0, Option.getD_some]; rfl
    · skip
      obtain rfl : i = v.length - 1 := by have h := of_decide_eq_false hc1; omega
      refine AWp.exit ?_
      refine AWp.seq ?_
      refine AWp.region ?_
      refine AList.c 24 rfl rfl rfl (OpJ.move rfl rfl) ?_
      refine AList.c 2 rfl rfl rfl (OpJ.assign rfl rfl) ?_
      refine AList.nil ?_
      refine AWp.ret ?_
      exact Fin.one rfl (rfl)
theorem isValid_ok (need : List Int) (l : List Pr) (hnl : need.length ≤ bigN) (hll : l.length ≤ bigN) : Pure Tryz.prog 82 [intsV need, rawV l] (.bool (decide (Vld need l))) := by
  refine Pure.start (N := 35) Tryz.func82 rfl rfl (Nat.le_of_ble_eq_true rfl) ?_
  refine AWp.seq ?_
  refine AWp.region ?_
  refine AList.c 2 rfl rfl rfl (OpJ.boxImm rfl rfl rfl) ?_
  refine AList.c 4 rfl rfl rfl (OpJ.assign rfl rfl) ?_
  refine AList.nil ?_
  refine AWp.seq ?_
  refine AWp.region ?_
  refine AList.c 5 rfl rfl rfl (OpJ.assign rfl rfl) ?_
  refine AList.nil ?_
  refine AWp.seq ?_
  refine AWp.region ?_
  refine AList.c 8 rfl rfl rfl (OpJ.makeFunc rfl rfl rfl) ?_
  refine AList.c 6 rfl rfl rfl (OpJ.assign rfl rfl) ?_
  refine AList.nil ?_
  refine AWp.seq ?_
  refine AWp.region ?_
  refine AList.c 9 rfl rfl rfl (OpJ.load rfl rfl ty45 rfl) ?_
  refine AList.c 10 rfl rfl rfl (OpJ.lenSlice rfl rfl sl45 rfl) ?_
  refine AList.c 11 rfl rfl rfl (OpJ.callP (within_ok _ _ _) rfl rfl rfl rfl rf83) ?_
  refine AList.c 12 rfl rfl rfl (OpJ.move rfl rfl) ?_
  refine AList.g 13 12 rfl rfl rfl rfl rfl rfl rfl [(1, _)] (fun h => And.intro (.inl rfl) (trivial)) (fun h => (OpJ.move rfl rfl)) ?_
  refine AList.g 14 12 rfl rfl rfl rfl rfl rfl rfl [(13, _)] (fun h => And.intro (.inr ⟨_, rfl, h⟩) (trivial)) (fun h => (OpJ.lenSlice rfl rfl sl50 rfl)) ?_
  refine AList.g 15 12 rfl rfl rfl rfl rfl rfl rfl [(14, _)] (fun h => And.intro (.inr ⟨_, rfl, h⟩) (trivial)) (fun h => (OpJ.leq rfl rfl rfl)) ?_
  refine AList.c 16 rfl rfl rfl (OpJ.and_ rfl rfl rfl ?_) ?_
  · first | (intro h; rw [h]; rfl) | (intro h; simp_all)
  refine AList.c 7 rfl rfl rfl (OpJ.assign rfl rfl) ?_
  refine AList.nil ?_
  refine AWp.seq ?_
  refine AWp.region ?_
  refine AList.c 17 rfl rfl rfl (OpJ.move rfl rfl) ?_
  refine AList.c 18 rfl rfl rfl (OpJ.move rfl rfl) ?_
  refine AList.g 19 18 rfl rfl rfl rfl rfl rfl rfl [(2, _)] (fun h => And.intro (.inl rfl) (trivial)) (fun h => (OpJ.load rfl rfl ty45 rfl)) ?_
  refine AList.g 20 18 rfl rfl rfl rfl rfl rfl rfl [(5, _)] (fun h => And.intro (.inl rfl) (trivial)) (fun h => (OpJ.move rfl rfl)) ?_
  refine AList.g 21 18 rfl rfl rfl rfl rfl rfl rfl [(19, _), (20, _)] (fun h => And.intro (.inr ⟨_, rfl, h⟩) (And.intro (.inr ⟨_, rfl, h⟩) (trivial))) (fun h => (OpJ.callP (containsFI_ok need _ nBad hnl (fun x _ => ⟨108, [.int .i64 x], rfl, rf108, isValid1_ok x⟩)) rfl rfl rfl rfl rf110)) ?_
  refine AList.g 22 18 rfl rfl rfl rfl rfl rfl rfl [(21, _)] (fun h => And.intro (.inr ⟨_, rfl, h⟩) (trivial)) (fun h => (OpJ.not_ rfl rfl)) ?_
  refine AList.c 23 rfl rfl rfl (OpJ.and_ rfl rfl rfl ?_) ?_
  · first | (intro h; rw [h]; rfl) | (intro h; simp_all)
  refine AList.c 24 rfl rfl rfl (OpJ.move rfl rfl) ?_
  refine AList.g 25 24 rfl rfl rfl rfl rfl rfl rfl [(1, _)] (fun h => And.intro (.inl rfl) (trivial)) (fun h => (OpJ.move rfl rfl)) ?_
  refine AList.g 26 24 rfl rfl rfl rfl rfl rfl rfl [(6, _)] (fun h => And.intro (.inl rfl) (trivial)) (fun h => (OpJ.move rfl rfl)) ?_
  refine AList.g 27 24 rfl rfl rfl rfl rfl rfl rfl [(25, _), (26, _)] (fun h => And.intro (.inr ⟨_, rfl, h⟩) (And.intro (.inr ⟨_, rfl, h⟩) (trivial))) (fun h => (OpJ.callP (containsFP_ok l _ (pBad need.length) hll (fun x _ => ⟨109, [.agg x.cells, .ip [intsV need] 0], rfl, rf109, isValid2_ok need x (by simp at h; omega)⟩)) rfl rfl rfl rfl rf111)) ?_
  refine AList.g 28 24 rfl rfl rfl rfl rfl rfl rfl [(27, _)] (fun h => And.intro (.inr ⟨_, rfl, h⟩) (trivial)) (fun h => (OpJ.not_ rfl rfl)) ?_
  refine AList.c 29 rfl rfl rfl (OpJ.and_ rfl rfl rfl ?_) ?_
  · first | (intro h; rw [h]; rfl) | (intro h; simp_all)
  refine AList.c 30 rfl rfl rfl (OpJ.move rfl rfl) ?_
  refine AList.g 31 30 rfl rfl rfl rfl rfl rfl rfl [(2, _)] (fun h => And.intro (.inl rfl) (trivial)) (fun h => (OpJ.load rfl rfl ty45 rfl)) ?_
  refine AList.g 32 30 rfl rfl rfl rfl rfl rfl rfl [(31, _)] (fun h => And.intro (.inr ⟨_, rfl, h⟩) (trivial)) (fun h => (OpJ.callP (sMax_ok need (by simp at h; omega) hnl) rfl rfl rfl rfl rf112)) ?_
  refine AList.g 33 30 rfl rfl rfl rfl rfl rfl rfl [(32, _)] (fun h => And.intro (.inr ⟨_, rfl, h⟩) (trivial)) (fun h => (OpJ.gtr rfl rfl rfl)) ?_
  refine AList.c 34 rfl rfl rfl (OpJ.and_ rfl rfl rfl ?_) ?_
  · first | (intro h; rw [h]; rfl) | (intro h; simp_all)
  refine AList.c 4 rfl rfl rfl (OpJ.assign rfl rfl) ?_
  refine AList.nil ?_
  refine AWp.ret ?_
  refine Fin.oneE rfl rfl ?_
  rw [← vld_eq]
end Go.Proofs.YtbnemnhmejmeeaaGreatDoor.Bx
end

section
set_option linter.unusedVariables false
set_option maxRecDepth 100000
set_option maxHeartbeats 4000000
set_option linter.unusedSimpArgs false
namespace Go.Proofs.YtbnemnhmejmeeaaGreatDoor.Bx
open Go.AF
theorem newStock_ok (n : Nat) (l : List Pl) (hn : n ≤ 8) (hl : okP n l) : Pure Tryz.prog 113 [plV l] (stkV (stkM l l.length)) := by
  have hl8 := hl.1
  have hp8 := pow8 hn
  refine Pure.start (N := 22) Tryz.func113 rfl rfl (Nat.le_of_ble_eq_true rfl) ?_
  refine AWp.seq ?_
  refine AWp.region ?_
  refine AList.c 2 rfl rfl rfl (OpJ.assign rfl rfl) ?_
  refine AList.nil ?_
  refine AWp.seq ?_
  refine AWp.region ?_
  refine AList.c 6 rfl rfl rfl (OpJ.makeMap (K := Int) (α := Int) (enc := PV.int .i64) (g := fun a => .p (PV.int .i64 a)) rfl) ?_
  refine AList.c 3 rfl rfl rfl (OpJ.assign rfl rfl) ?_
  refine AList.nil ?_
  refine AWp.seq ?_
  refine AWp.seq ?_
  refine AWp.region ?_
  refine AList.c 7 rfl rfl rfl (OpJ.move rfl rfl) ?_
  refine AList.c 8 rfl rfl rfl (OpJ.lenSlice rfl rfl sl50 rfl) ?_
  refine AList.c 9 rfl rfl rfl (OpJ.move rfl rfl) ?_
  refine AList.nil ?_
  refine AWp.block ?_
  refine AWp.loopH [5, 9, 10, 11, 12, 13, 14, 15, 16, 17, 18, 19, 20] (fun g => [(9, .p (.int .i64 ((g : Nat) : Int)))]) (fun g => [mapB (PV.int .i64) (fun a => .p (PV.int .i64 a)) (stkM l g)]) (fun g => g ≤ l.length) (fun g => l.length - g) 0 (Nat.zero_le _) (To.sub (Sub.chd (Sub.cons rfl Sub.nil))) (fun i hg => ?_)
  refine AWp.seq ?_
  refine AWp.region ?_
  refine AList.c 10 rfl rfl rfl (OpJ.lss rfl rfl rfl) ?_
  refine AList.nil ?_
  refine AWp.seq ?_
  refine AWp.cond _ rfl (fun hc0 => ?_) (fun hc0 => ?_)
  · skip
    have hk0 : i < l.length := by simp at hc0; omega
    have hti := hl.2 l[i] (List.getElem_mem _)
    have hg1 := stkM_get hl (l[i].s : Int) i hg
    refine AWp.skip ?_
    refine AWp.seq ?_
    refine AWp.block ?_
    refine AWp.seq ?_
    refine AWp.region ?_
    refine AList.c 11 rfl rfl rfl (OpJ.indexEl rfl rfl rfl sl50 el50 rfl (fun _ => rfl) (by decide) hk0) ?_
    refine AList.c 12 rfl rfl rfl (OpJ.load rfl rfl ty105 rfl) ?_
    refine AList.c 5 rfl rfl rfl (OpJ.allocOwn rfl zr105 rfl) ?_
    refine AList.c0 rfl rfl (OpJ.store rfl rfl rfl rfl rfl ty105 rfl rfl) ?_
    refine AList.nil ?_
    refine AWp.region ?_
    refine AList.c 13 rfl rfl rfl (OpJ.move rfl rfl) ?_
    refine AList.c 14 rfl rfl rfl (OpJ.fieldAddr rfl rfl fd105_0 rfl) ?_
    refine AList.c 15 rfl rfl rfl (OpJ.load rfl rfl ty3 rfl) ?_
    refine AList.c 16 rfl rfl rfl (OpJ.lookupOwnD (KeyOk.int .i64 .i64) (gp := PV.int .i64) 0 rfl rfl rfl rfl mp190 rfl) ?_
    refine AList.c 17 rfl rfl rfl (OpJ.fieldAddr rfl rfl fd105_1 rfl) ?_
    refine AList.c 18 rfl rfl rfl (OpJ.load rfl rfl ty3 rfl) ?_
    refine AList.c 19 rfl rfl rfl (OpJ.add rfl rfl rfl (i64ok ?_)) ?_
    · omega
    refine AList.c0 rfl rfl (OpJ.mapUpdate (KeyOk.int .i64 .i64) (g := fun a => .p (PV.int .i64 a)) (.inl rfl) rfl rfl rfl rfl mp190) ?_
    refine AList.nil ?_
    refine AWp.region ?_
    refine AList.c 20 rfl rfl rfl (OpJ.add rfl rfl rfl (i64ok ?_)) ?_
    · omega
    refine AList.c 9 rfl rfl rfl (OpJ.move rfl rfl) ?_
    refine AList.nil ?_
    refine ⟨i + 1, ?_, ?_, ?_⟩
    · omega
    · omega
    refine To.done [0] rfl (by repeat (first | exact Sub.nil | refine Sub.cons rfl ?_)) ?_
    show [renB _ (mapB _ (fun a => .p (PV.int .i64 a)) (mset _ _ _))] = _
    rw [renB_mapB, stkM_succ l i hk0, stkStep]
  · skip
    obtain rfl : i = l.length := by simp at hc0; omega
    refine AWp.to (To.freezeMap 0 (gp := PV.int .i64) rfl) ?_
    refine AWp.exit ?_
    refine AWp.seq ?_
    refine AWp.region ?_
    refine AList.c 21 rfl rfl rfl (OpJ.move rfl rfl) ?_
    refine AList.c 2 rfl rfl rfl (OpJ.assign rfl rfl) ?_
    refine AList.nil ?_
    refine AWp.ret ?_
    exact Fin.one rfl (rfl)
theorem meetsZ_ok (s : Nat) (t : Int) (hs : s ≤ 1152921504606846976) (h0 : 0 ≤ t) (ht : t ≤ 1152921504606846976) : Pure Tryz.prog 146 [.int .i64 (s : Int), .int .i64 t] (.bool (!decide (s &&& t.toNat = 0))) := by
  have h := meets_ok s t.toNat hs (by omega)
  rwa [Int.toNat_of_nonneg h0] at h
theorem bof_ok (n : Nat) (l : List Pl) (s : Nat) (hn : n ≤ 8) (hl : okP n l) (hs : s < 256) : Pure Tryz.prog 133 [stkV (stkM l l.length), .int .i64 (s : Int)] (.int .i64 (ofP l s)) := by
  have hp8 := pow8 hn
  have hms := stkM_ok hl
  have htot := stkM_ofP l s
  have hB := ofP_BB hl s
  have hpos : ∀ m ∈ stkM l l.length, 0 ≤ ofE s m.1 m.2 := fun m hm => by have := hms m hm; unfold ofE; split <;> omega
  generalize stkM l l.length = ms at hms htot hpos ⊢
  refine Pure.start (N := 24) Tryz.func133 rfl rfl (Nat.le_of_ble_eq_true rfl) ?_
  refine AWp.seq ?_
  refine AWp.region ?_
  refine AList.c 4 rfl rfl rfl (OpJ.assign rfl rfl) ?_
  refine AList.nil ?_
  refine AWp.seq ?_
  refine AWp.region ?_
  refine AList.c 8 rfl rfl rfl (OpJ.move rfl rfl) ?_
  refine AList.c 9 rfl rfl rfl (OpJ.makeFunc rfl rfl rfl) ?_
  refine AList.c 5 rfl rfl rfl (OpJ.assign rfl rfl) ?_
  refine AList.nil ?_
  refine AWp.seq ?_
  refine AWp.seq ?_
  refine AWp.region ?_
  refine AList.c 10 rfl rfl rfl (OpJ.move rfl rfl) ?_
  refine AList.c 11 rfl rfl rfl (OpJ.rangeMap (enc := PV.int .i64) (gp := PV.int .i64) rfl rfl mp190) ?_
  refine AList.nil ?_
  refine AWp.block ?_
  refine AWp.loopH [4, 6, 7, 12, 13, 14, 15, 16, 17, 18, 19, 20, 21, 22] (fun (g : MG (Int × Int)) => [(4, .p (.int .i64 (g.d.map fun m => ofE s m.1 m.2).sum))]) (fun (g : MG (Int × Int)) => [iterB (PV.int .i64) (PV.int .i64) g.r g.last]) (fun (g : MG (Int × Int)) => MG.ok ms g) (fun (g : MG (Int × Int)) => g.r.length) ⟨[], ms, none⟩ ⟨(fun f => by simp), (fun _ h => by cases h), fun _ h => h⟩ (To.sub (Sub.chd (Sub.cons rfl Sub.nil))) (fun g hg => ?_)
  obtain ⟨d, r, last⟩ := g
  dsimp only
  refine AWp.seq ?_
  refine AWp.region ?_
  refine AList.nextMap 12 rfl rfl rfl rfl rfl rfl ?_ ?_
  · skip
    intro hr
    subst hr
    refine AList.c 13 rfl rfl rfl (OpJ.extract rfl rfl rfl) ?_
    refine AList.nil ?_
    refine AWp.seq ?_
    refine AWp.cond _ rfl (fun hc0 => ?_) (fun hc0 => ?_)
    · skip
      cases hc0
    · skip
      refine AWp.exit ?_
      refine AWp.seq ?_
      refine AWp.region ?_
      refine AList.c 23 rfl rfl rfl (OpJ.move rfl rfl) ?_
      refine AList.c 4 rfl rfl rfl (OpJ.assign rfl rfl) ?_
      refine AList.nil ?_
      refine AWp.ret ?_
      refine Fin.oneE rfl rfl ?_
      have e1 := hg.1 (fun m => ofE s m.1 m.2)
      simp at e1
      rw [← htot, ← e1]
  · skip
    intro j m hj
    have hjl : j < r.length := (List.getElem?_eq_some_iff.1 hj).1
    have hmem : m ∈ ms := hg.2.2 m (List.mem_of_getElem? hj)
    have hmw := hms m hmem
    have hk : m.1 = ((m.1.toNat : Nat) : Int) := by omega
    have hg2 := MG.ok_next hg hj
    have s1 := hg2.1 (fun m => ofE s m.1 m.2)
    dsimp only at s1
    rw [sum_snoc] at s1
    have s4 := sum_nonneg (f := fun m : Int × Int => ofE s m.1 m.2) (r := r.eraseIdx j) (fun x hx => hpos x (hg2.2.2 x hx))
    have s5 := sum_nonneg (f := fun m : Int × Int => ofE s m.1 m.2) (r := d) (fun x hx => hpos x (hg.2.1 x hx))
    have s6 := hpos m hmem
    have s7 : (1 : Nat) ≤ 1 := Nat.le_refl _
    refine AList.c 13 rfl rfl rfl (OpJ.extract rfl rfl rfl) ?_
    refine AList.nil ?_
    refine AWp.seq ?_
    refine AWp.cond _ rfl (fun hc0 => ?_) (fun hc0 => ?_)
    · skip
      refine AWp.skip ?_
      refine AWp.block ?_
      refine AWp.seq ?_
      refine AWp.region ?_
      refine AList.c 14 rfl rfl rfl (OpJ.entry rfl rfl rfl) ?_
      refine AList.c 15 rfl rfl rfl (OpJ.extract rfl rfl rfl) ?_
      refine AList.c 16 rfl rfl rfl (OpJ.extract rfl rfl rfl) ?_
      refine AList.c 6 rfl rfl rfl (OpJ.assign rfl rfl) ?_
      refine AList.c 7 rfl rfl rfl (OpJ.assign rfl rfl) ?_
      refine AList.nil ?_
      refine AWp.seq ?_
      refine AWp.region ?_
      refine AList.c 17 rfl rfl rfl (OpJ.move rfl rfl) ?_
      refine AList.c 18 rfl rfl rfl (OpJ.move rfl rfl) ?_
      refine AList.c 19 rfl rfl rfl (OpJ.callP (meetsZ_ok s m.1 ?_ ?_ ?_) rfl rfl rfl rfl (rf146)) ?_
      · omega
      · omega
      · omega
      refine AList.nil ?_
      refine AWp.cond _ rfl (fun hc1 => ?_) (fun hc1 => ?_)
      · skip
        have e1 : ofE s m.1 m.2 = m.2 := by unfold ofE; rw [if_neg (by rw [Nat.and_comm]; simpa using hc1)]
        refine AWp.region ?_
        refine AList.c 20 rfl rfl rfl (OpJ.move rfl rfl) ?_
        refine AList.c 21 rfl rfl rfl (OpJ.move rfl rfl) ?_
        refine AList.c 22 rfl rfl rfl (OpJ.add rfl rfl rfl (i64ok ?_)) ?_
        · omega
        refine AList.c 4 rfl rfl rfl (OpJ.assign rfl rfl) ?_
        refine AList.nil ?_
        refine ⟨⟨d ++ [m], r.eraseIdx j, some m⟩, ?_, ?_, ?_⟩
        · exact MG.ok_next hg hj
        · show (r.eraseIdx j).length < r.length
          rw [List.length_eraseIdx, if_pos hjl]
          omega
        refine To.done [0] rfl (Sub.cons ?_ (by repeat (first | exact Sub.nil | refine Sub.cons rfl ?_))) rfl
        dsimp only
        rw [sum_snoc, e1]
        first | rfl | (rw [Int.add_zero]; rfl)
      · skip
        have e1 : ofE s m.1 m.2 = 0 := by unfold ofE; rw [if_pos (by rw [Nat.and_comm]; simpa using hc1)]
        refine AWp.skip ?_
        refine ⟨⟨d ++ [m], r.eraseIdx j, some m⟩, ?_, ?_, ?_⟩
        · exact MG.ok_next hg hj
        · show (r.eraseIdx j).length < r.length
          rw [List.length_eraseIdx, if_pos hjl]
          omega
        refine To.done [0] rfl (Sub.cons ?_ (by repeat (first | exact Sub.nil | refine Sub.cons rfl ?_))) rfl
        dsimp only
        rw [sum_snoc, e1]
        first | rfl | (rw [Int.add_zero]; rfl)
    · skip
      cases hc0
end Go.Proofs.YtbnemnhmejmeeaaGreatDoor.Bx
end

section
set_option linter.unusedVariables false
set_option maxRecDepth 100000
set_option maxHeartbeats 4000000
set_option linter.unusedSimpArgs false
namespace Go.Proofs.YtbnemnhmejmeeaaGreatDoor.Bx
open Go.AF
theorem scI (v : List Int) : scL (v.flatMap i1) = true := by
  induction v with
  | nil => rfl
  | cons x r ih => exact ih
theorem oneI (v : List Int) : (((v.flatMap i1).map V.p).all oneV) = true := by
  simp only [List.all_map, List.all_flatMap, List.all_eq_true]
  intro s _ x hx
  simp [i1] at hx
  subst hx; rfl
theorem clone_ok (v : List Int) (h0 : 0 < v.length) (h8 : v.length ≤ 8) : ACalls Tryz.prog 48 ([intsV v].map .p) [] fun x H' => x = .row 0 v.length ∧ H' = [.row ((v.flatMap i1).map .p) 3] := by
  refine ACalls.start (N := 8) Tryz.func48 rfl rfl (Nat.le_of_ble_eq_true rfl) ?_
  refine AWp.seq ?_
  refine AWp.region ?_
  refine AList.c 2 rfl rfl rfl (OpJ.assign rfl rfl) ?_
  refine AList.nil ?_
  refine AWp.seq ?_
  refine AWp.seq ?_
  refine AWp.region ?_
  refine AList.c 3 rfl rfl rfl (OpJ.move rfl rfl) ?_
  refine AList.c 4 rfl rfl rfl (OpJ.eqNil rfl rfl rfl slz45 h0) ?_
  refine AList.nil ?_
  refine AWp.cond _ rfl (fun hc0 => ?_) (fun hc0 => ?_)
  · skip
    cases hc0
  · skip
    refine AWp.skip ?_
    refine AWp.seq ?_
    refine AWp.region ?_
    refine AList.c 5 rfl rfl rfl (OpJ.buildOwn rfl slz45 (by decide) rfl rfl) ?_
    refine AList.c 6 rfl rfl rfl (OpJ.move rfl rfl) ?_
    refine AList.c 7 rfl rfl rfl (OpJ.appendRow rfl rfl rfl slz45 sl45 rfl ?_ (asrc_is (by rw [flat_len (c := 1) (fun _ => rfl)]; rfl)) (oneI v) by3 (by decide) ?_) ?_
    · rfl
    · show (2 * (0 + v.length) + 192) * 8 ≤ 281474976710656; omega
    refine AList.c 2 rfl rfl rfl (OpJ.assign rfl rfl) ?_
    refine AList.nil ?_
    refine AWp.norm [1] [(2, .row 0 (0 + v.length))] [.row ((v.flatMap i1).map .p) 3] rfl (by repeat (first | exact Sub.nil | refine Sub.cons rfl ?_)) ?_ ?_
    · show [Blk.row (renL _ (_ ++ _)) _] = _
      rw [renL_app, renL_pure (pl [1]) (v.flatMap i1)]; rfl
    refine AWp.ret ?_
    exact ⟨.inr rfl, .row 0 (0 + v.length), resV.one rfl rfl, by rw [Nat.zero_add], rfl⟩
theorem worst_ok (v : List Int) (l : List Pl) (hv : okV v) (hl : okP v.length l) : Pure Tryz.prog 114 [stkV (stkM l l.length), intsV v, setsV v.length] (.tuple [.int .i64 ((lkF v l (allS v.length)).1 : Int), .int .i64 (lkF v l (allS v.length)).2]) := by
  have h8 := hv.1
  have hp := pow8 h8
  have hp1 := pow_pos' v.length
  have hA : allS v.length = 2 ^ v.length - 1 := rfl
  have eA := setsL_length v.length
  refine Pure.start (N := 32) Tryz.func114 rfl rfl (Nat.le_of_ble_eq_true rfl) ?_
  refine AWp.seq ?_
  refine AWp.region ?_
  refine AList.c 6 rfl rfl rfl (OpJ.assign rfl rfl) ?_
  refine AList.c 7 rfl rfl rfl (OpJ.assign rfl rfl) ?_
  refine AList.nil ?_
  refine AWp.seq ?_
  refine AWp.seq ?_
  refine AWp.region ?_
  refine AList.c 11 rfl rfl rfl (OpJ.move rfl rfl) ?_
  refine AList.c 12 rfl rfl rfl (OpJ.lenSlice rfl rfl sl193 rfl) ?_
  refine AList.c 13 rfl rfl rfl (OpJ.move rfl rfl) ?_
  refine AList.nil ?_
  refine AWp.block ?_
  refine AWp.loopK [6, 7, 9, 10, 13, 14, 15, 16, 17, 18, 19, 20, 21, 22, 23, 24, 25, 26, 27, 28, 29] (fun g => [(13, .p (.int .i64 ((g : Nat) : Int))), (6, .p (.int .i64 ((lkF v l g).1 : Int))), (7, .p (.int .i64 (lkF v l g).2))]) (fun g => g ≤ (setsL v.length).length) (fun g => (setsL v.length).length - g) 0 (Nat.zero_le _) (Sub.cons rfl (Sub.cons rfl (Sub.cons rfl (Sub.nil)))) (fun i hg => ?_)
  have hb3 := lkF_B hv hl i
  refine AWp.seq ?_
  refine AWp.region ?_
  refine AList.c 14 rfl rfl rfl (OpJ.lss rfl rfl rfl) ?_
  refine AList.nil ?_
  refine AWp.seq ?_
  refine AWp.cond _ rfl (fun hc0 => ?_) (fun hc0 => ?_)
  · skip
    have hk0 : i < (setsL v.length).length := by have h := of_decide_eq_true hc0; omega
    have es := setsL_get v.length i hk0
    have hs1 := sumS_B hv (setsL v.length)[i]
    have hs2 := ofP_BB hl (setsL v.length)[i]
    refine AWp.skip ?_
    refine AWp.seq ?_
    refine AWp.block ?_
    refine AWp.seq ?_
    refine AWp.region ?_
    refine AList.c 15 rfl rfl rfl (OpJ.indexEl rfl rfl rfl sl193 el193 rfl (fun _ => rfl) (by decide) hk0) ?_
    refine AList.c 16 rfl rfl rfl (OpJ.load rfl rfl ty113 rfl) ?_
    refine AList.c 9 rfl rfl rfl (OpJ.assign rfl rfl) ?_
    refine AList.nil ?_
    refine AWp.seq ?_
    refine AWp.region ?_
    refine AList.c 17 rfl rfl rfl (OpJ.move rfl rfl) ?_
    refine AList.c 18 rfl rfl rfl (OpJ.move rfl rfl) ?_
    refine AList.c 19 rfl rfl rfl (OpJ.callP (bsum_ok v (setsL v.length)[i] hv ?_) rfl rfl rfl rfl rf132) ?_
    · rw [es]; omega
    refine AList.c 20 rfl rfl rfl (OpJ.move rfl rfl) ?_
    refine AList.c 21 rfl rfl rfl (OpJ.move rfl rfl) ?_
    refine AList.c 22 rfl rfl rfl (OpJ.callP (bof_ok v.length l (setsL v.length)[i] h8 hl ?_) rfl rfl rfl rfl rf133) ?_
    · rw [es]; omega
    refine AList.c 23 rfl rfl rfl (OpJ.sub_ rfl rfl rfl (i64ok ?_)) ?_
    · omega
    refine AList.c 10 rfl rfl rfl (OpJ.assign rfl rfl) ?_
    refine AList.nil ?_
    refine AWp.seq ?_
    refine AWp.region ?_
    refine AList.c 24 rfl rfl rfl (OpJ.move rfl rfl) ?_
    refine AList.c 25 rfl rfl rfl (OpJ.move rfl rfl) ?_
    refine AList.c 26 rfl rfl rfl (OpJ.gtr rfl rfl rfl) ?_
    refine AList.nil ?_
    refine AWp.cond _ rfl (fun hc1 => ?_) (fun hc1 => ?_)
    · skip
      refine AWp.region ?_
      refine AList.c 27 rfl rfl rfl (OpJ.move rfl rfl) ?_
      refine AList.c 28 rfl rfl rfl (OpJ.move rfl rfl) ?_
      refine AList.c 6 rfl rfl rfl (OpJ.assign rfl rfl) ?_
      refine AList.c 7 rfl rfl rfl (OpJ.assign rfl rfl) ?_
      refine AList.nil ?_
      refine AWp.region ?_
      refine AList.c 29 rfl rfl rfl (OpJ.add rfl rfl rfl (i64ok ?_)) ?_
      · omega
      refine AList.c 13 rfl rfl rfl (OpJ.move rfl rfl) ?_
      refine AList.nil ?_
      refine ⟨i + 1, ?_, ?_, ?_⟩
      · omega
      · omega
      refine To.done [] rfl ?_ rfl
      rw [es] at hc1 ⊢
      refine Sub.cons rfl (Sub.cons ?_ (Sub.cons ?_ (by repeat (first | exact Sub.nil | refine Sub.cons rfl ?_)))) <;> (simp only [lkF]; rw [if_pos (by simpa using hc1)]; rfl)
    · skip
      refine AWp.skip ?_
      refine AWp.region ?_
      refine AList.c 29 rfl rfl rfl (OpJ.add rfl rfl rfl (i64ok ?_)) ?_
      · omega
      refine AList.c 13 rfl rfl rfl (OpJ.move rfl rfl) ?_
      refine AList.nil ?_
      refine ⟨i + 1, ?_, ?_, ?_⟩
      · omega
      · omega
      refine To.done [] rfl ?_ rfl
      rw [es] at hc1
      refine Sub.cons rfl (Sub.cons ?_ (Sub.cons ?_ (by repeat (first | exact Sub.nil | refine Sub.cons rfl ?_)))) <;> (simp only [lkF]; rw [if_neg (by simpa using hc1)]; rfl)
  · skip
    obtain rfl : i = (setsL v.length).length := by have h := of_decide_eq_false hc0; omega
    rw [eA]
    refine AWp.exit ?_
    refine AWp.seq ?_
    refine AWp.region ?_
    refine AList.c 30 rfl rfl rfl (OpJ.move rfl rfl) ?_
    refine AList.c 31 rfl rfl rfl (OpJ.move rfl rfl) ?_
    refine AList.c 6 rfl rfl rfl (OpJ.assign rfl rfl) ?_
    refine AList.c 7 rfl rfl rfl (OpJ.assign rfl rfl) ?_
    refine AList.nil ?_
    refine AWp.ret ?_
    exact Fin.many (xs := [.int .i64 ((lkF v l (allS v.length)).1 : Int), .int .i64 (lkF v l (allS v.length)).2]) rfl (⟨_, _, rfl, rfl, ⟨_, _, rfl, rfl, rfl⟩⟩) rfl
end Go.Proofs.YtbnemnhmejmeeaaGreatDoor.Bx
end
