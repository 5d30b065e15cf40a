/-
  Small functions: sets.
-/
import Derived.Test.YtpamkihpffoflaaBxFacts
import Derived.Test.YtpamkihpffoflaaBxD
set_option linter.unusedVariables false
set_option maxRecDepth 100000
set_option maxHeartbeats 4000000
set_option linter.unusedSimpArgs false
namespace Go.Proofs.Ytpamkihpffoflaa
open Go.AF
theorem within_ok (n lo hi : Int) : Pure Try.prog 49 [.int .i64 n, .int .i64 lo, .int .i64 hi] (.bool (decide (lo ≤ n) && decide (n ≤ hi))) := by
  refine Pure.start (N := 15) Try.func49 rfl rfl (Nat.le_of_ble_eq_true rfl) ?_
  refine AWp.seq ?_
  refine AWp.region ?_
  refine AList.c 6 rfl rfl rfl (OpJ.assign rfl rfl) ?_
  refine AList.nil ?_
  refine AWp.seq ?_
  refine AWp.region ?_
  refine AList.c 7 rfl rfl rfl (OpJ.move rfl rfl) ?_
  refine AList.c 8 rfl rfl rfl (OpJ.move rfl rfl) ?_
  refine AList.c 9 rfl rfl rfl (OpJ.leq rfl rfl rfl) ?_
  refine AList.c 10 rfl rfl rfl (OpJ.move rfl rfl) ?_
  refine AList.g 11 10 rfl rfl rfl rfl rfl rfl rfl [(0, _)] (fun h => And.intro (.inl rfl) (trivial)) (fun h => (OpJ.move rfl rfl)) ?_
  refine AList.g 12 10 rfl rfl rfl rfl rfl rfl rfl [(2, _)] (fun h => And.intro (.inl rfl) (trivial)) (fun h => (OpJ.move rfl rfl)) ?_
  refine AList.g 13 10 rfl rfl rfl rfl rfl rfl rfl [(11, _), (12, _)] (fun h => And.intro (.inr ⟨_, rfl, h⟩) (And.intro (.inr ⟨_, rfl, h⟩) (trivial))) (fun h => (OpJ.leq rfl rfl rfl)) ?_
  refine AList.c 14 rfl rfl rfl (OpJ.and_ rfl rfl rfl ?_) ?_
  · first | (intro h; rw [h]; rfl) | (intro h; simp_all)
  refine AList.c 6 rfl rfl rfl (OpJ.assign rfl rfl) ?_
  refine AList.nil ?_
  refine AWp.ret ?_
  exact Fin.one rfl (rfl)
theorem in_ok (n lo hi : Int) : Pure Try.prog 51 [.int .i64 n, .int .i64 lo, .int .i64 hi] (.bool (decide (lo ≤ n) && decide (n ≤ hi))) := by
  refine Pure.start (N := 15) Try.func51 rfl rfl (Nat.le_of_ble_eq_true rfl) ?_
  refine AWp.seq ?_
  refine AWp.region ?_
  refine AList.c 6 rfl rfl rfl (OpJ.assign rfl rfl) ?_
  refine AList.nil ?_
  refine AWp.seq ?_
  refine AWp.region ?_
  refine AList.c 7 rfl rfl rfl (OpJ.move rfl rfl) ?_
  refine AList.c 8 rfl rfl rfl (OpJ.move rfl rfl) ?_
  refine AList.c 9 rfl rfl rfl (OpJ.leq rfl rfl rfl) ?_
  refine AList.c 10 rfl rfl rfl (OpJ.move rfl rfl) ?_
  refine AList.g 11 10 rfl rfl rfl rfl rfl rfl rfl [(0, _)] (fun h => And.intro (.inl rfl) (trivial)) (fun h => (OpJ.move rfl rfl)) ?_
  refine AList.g 12 10 rfl rfl rfl rfl rfl rfl rfl [(2, _)] (fun h => And.intro (.inl rfl) (trivial)) (fun h => (OpJ.move rfl rfl)) ?_
  refine AList.g 13 10 rfl rfl rfl rfl rfl rfl rfl [(11, _), (12, _)] (fun h => And.intro (.inr ⟨_, rfl, h⟩) (And.intro (.inr ⟨_, rfl, h⟩) (trivial))) (fun h => (OpJ.leq rfl rfl rfl)) ?_
  refine AList.c 14 rfl rfl rfl (OpJ.and_ rfl rfl rfl ?_) ?_
  · first | (intro h; rw [h]; rfl) | (intro h; simp_all)
  refine AList.c 6 rfl rfl rfl (OpJ.assign rfl rfl) ?_
  refine AList.nil ?_
  refine AWp.ret ?_
  exact Fin.one rfl (rfl)
theorem lspan_ok (a b : Int) : Pure Try.prog 28 [.int .i64 a, .int .i64 b] (.agg [.int .i64 a, .int .i64 b]) := by
  refine Pure.start (N := 8) Try.func28 rfl rfl (Nat.le_of_ble_eq_true rfl) ?_
  refine AWp.seq ?_
  refine AWp.region ?_
  refine AList.c 4 rfl rfl rfl (OpJ.allocOwn rfl zr35 rfl) ?_
  refine AList.nil ?_
  refine AWp.seq ?_
  refine AWp.region ?_
  refine AList.c 5 rfl rfl rfl (OpJ.move rfl rfl) ?_
  refine AList.c 6 rfl rfl rfl (OpJ.move rfl rfl) ?_
  refine AList.c 7 rfl rfl rfl (OpJ.build rfl bd35 rfl rfl) ?_
  refine AList.c0 rfl rfl (OpJ.store rfl rfl rfl rfl rfl ty35 rfl rfl) ?_
  refine AList.nil ?_
  refine AWp.ret ?_
  exact Fin.one rfl (⟨_, _, _, rfl, ty35, rfl⟩)
theorem power_ok (n : Nat) (hn : n ≤ 60) : Pure Try.prog 38 [.int .i64 (n : Int)] (.int .i64 ((2 ^ n : Nat) : Int)) := by
  refine Pure.start (N := 13) Try.func38 rfl rfl (Nat.le_of_ble_eq_true rfl) ?_
  refine AWp.seq ?_
  refine AWp.region ?_
  refine AList.c 2 rfl rfl rfl (OpJ.assign rfl rfl) ?_
  refine AList.nil ?_
  refine AWp.seq ?_
  refine AWp.region ?_
  refine AList.c 3 rfl rfl rfl (OpJ.assign rfl rfl) ?_
  refine AList.nil ?_
  refine AWp.seq ?_
  refine AWp.seq ?_
  refine AWp.region ?_
  refine AList.c 4 rfl rfl rfl (OpJ.assign rfl rfl) ?_
  refine AList.nil ?_
  refine AWp.block ?_
  refine AWp.loopK [3, 4, 5, 6, 7, 8, 9, 10, 11] (fun g => [(4, .p (.int .i64 ((g : Nat) : Int))), (3, .p (.int .i64 ((2 ^ g : Nat) : Int)))]) (fun g => g ≤ n) (fun g => n - g) 0 (Nat.zero_le _) (Sub.cons rfl (Sub.cons rfl (Sub.nil))) (fun i hg => ?_)
  refine AWp.seq ?_
  refine AWp.seq ?_
  refine AWp.region ?_
  refine AList.c 5 rfl rfl rfl (OpJ.move rfl rfl) ?_
  refine AList.c 6 rfl rfl rfl (OpJ.move rfl rfl) ?_
  refine AList.c 7 rfl rfl rfl (OpJ.lss rfl rfl rfl) ?_
  refine AList.nil ?_
  refine AWp.cond _ rfl (fun hc0 => ?_) (fun hc0 => ?_)
  · skip
    have hin : i < n := by simp at hc0; omega
    have hp := pow_le (n := i + 1) (by omega)
    have e2 := Nat.pow_succ 2 i
    refine AWp.skip ?_
    refine AWp.seq ?_
    refine AWp.block ?_
    refine AWp.region ?_
    refine AList.c 10 rfl rfl rfl (OpJ.move rfl rfl) ?_
    refine AList.c 11 rfl rfl rfl (OpJ.mul (m := ((2 ^ (i + 1) : Nat) : Int)) rfl rfl rfl ((i64ok ?_).trans ?_)) ?_
    · omega
    · omega
    refine AList.c 3 rfl rfl rfl (OpJ.assign rfl rfl) ?_
    refine AList.nil ?_
    refine AWp.region ?_
    refine AList.c 8 rfl rfl rfl (OpJ.move rfl rfl) ?_
    refine AList.c 9 rfl rfl rfl (OpJ.add rfl rfl rfl (i64ok ?_)) ?_
    · omega
    refine AList.c 4 rfl rfl rfl (OpJ.assign rfl rfl) ?_
    refine AList.nil ?_
    refine ⟨i + 1, ?_, ?_, ?_⟩
    · omega
    · omega
    exact To.done [] rfl (by repeat (first | exact Sub.nil | refine Sub.cons rfl ?_)) rfl
  · skip
    obtain rfl : i = n := by simp at hc0; omega
    refine AWp.exit ?_
    refine AWp.seq ?_
    refine AWp.region ?_
    refine AList.c 12 rfl rfl rfl (OpJ.move rfl rfl) ?_
    refine AList.c 2 rfl rfl rfl (OpJ.assign rfl rfl) ?_
    refine AList.nil ?_
    refine AWp.ret ?_
    exact Fin.one rfl (rfl)
theorem has_ok (s i : Nat) (hs : s ≤ 1152921504606846976) (hi : i ≤ 60) : Pure Try.prog 25 [.int .i64 (s : Int), .int .i64 (i : Int)] (.bool (s.testBit i)) := by
  have hp := pow_pos' i
  have hd := Nat.div_le_self s (2 ^ i)
  refine Pure.start (N := 11) Try.func25 rfl rfl (Nat.le_of_ble_eq_true rfl) ?_
  refine AWp.seq ?_
  refine AWp.region ?_
  refine AList.c 4 rfl rfl rfl (OpJ.assign rfl rfl) ?_
  refine AList.nil ?_
  refine AWp.seq ?_
  refine AWp.region ?_
  refine AList.c 5 rfl rfl rfl (OpJ.move rfl rfl) ?_
  refine AList.c 6 rfl rfl rfl (OpJ.move rfl rfl) ?_
  refine AList.c 7 rfl rfl rfl (OpJ.callP (power_ok _ ?_) rfl rfl rfl rfl rf38) ?_
  · omega
  refine AList.c 8 rfl rfl rfl (OpJ.quo (m := ((s / 2 ^ i : Nat) : Int)) rfl rfl rfl ?_ ((i64ok ?_).trans ?_)) ?_
  · omega
  · show _ ≤ Int.tdiv (s : Int) ((2 ^ i : Nat) : Int) ∧ Int.tdiv (s : Int) ((2 ^ i : Nat) : Int) ≤ _; rw [show Int.tdiv (s : Int) ((2 ^ i : Nat) : Int) = ((s / 2 ^ i : Nat) : Int) from rfl]; generalize s / 2 ^ i = d at hd ⊢; omega
  · rfl
  refine AList.c 9 rfl rfl rfl (OpJ.rem (m := ((s / 2 ^ i % 2 : Nat) : Int)) rfl rfl rfl ?_ ?_) ?_
  · decide
  · exact tmodN _ _
  refine AList.c 10 rfl rfl rfl (OpJ.eql rfl rfl rfl) ?_
  refine AList.c 4 rfl rfl rfl (OpJ.assign rfl rfl) ?_
  refine AList.nil ?_
  refine AWp.ret ?_
  refine Fin.oneE rfl rfl ?_
  rw [testBit_iff]
theorem bhas_ok (s i : Nat) (hs : s ≤ 1152921504606846976) (hi : i ≤ 60) : Pure Try.prog 44 [.int .i64 (s : Int), .int .i64 (i : Int)] (.bool (s.testBit i)) := by
  have hd := Nat.div_le_self s (2 ^ i)
  refine Pure.start (N := 10) Try.func44 rfl rfl (Nat.le_of_ble_eq_true rfl) ?_
  refine AWp.seq ?_
  refine AWp.region ?_
  refine AList.c 4 rfl rfl rfl (OpJ.assign rfl rfl) ?_
  refine AList.nil ?_
  refine AWp.seq ?_
  refine AWp.region ?_
  refine AList.c 5 rfl rfl rfl (OpJ.move rfl rfl) ?_
  refine AList.c 6 rfl rfl rfl (OpJ.move rfl rfl) ?_
  refine AList.c 7 rfl rfl rfl (OpJ.shrN s i rfl rfl rfl (by first | decide | (show _ ≤ (9223372036854775807 : Int); omega) | (show _ ≤ (4294967295 : Int); omega))) ?_
  refine AList.c 8 rfl rfl rfl (OpJ.andN (s / 2 ^ i) 1 rfl rfl rfl (by first | (show _ ≤ (9223372036854775807 : Int); omega) | (show _ ≤ (4294967295 : Int); omega)) (by first | decide | (show _ ≤ (9223372036854775807 : Int); omega) | (show _ ≤ (4294967295 : Int); omega))) ?_
  refine AList.c 9 rfl rfl rfl (OpJ.eql rfl rfl rfl) ?_
  refine AList.c 4 rfl rfl rfl (OpJ.assign rfl rfl) ?_
  refine AList.nil ?_
  refine AWp.ret ?_
  refine Fin.oneE rfl rfl ?_
  rw [testBit_and1]
theorem meets_ok (s t : Nat) (hs : s ≤ 1152921504606846976) (ht : t ≤ 1152921504606846976) : Pure Try.prog 60 [.int .i64 (s : Int), .int .i64 (t : Int)] (.bool (!decide (s &&& t = 0))) := by
  refine Pure.start (N := 9) Try.func60 rfl rfl (Nat.le_of_ble_eq_true rfl) ?_
  refine AWp.seq ?_
  refine AWp.region ?_
  refine AList.c 4 rfl rfl rfl (OpJ.assign rfl rfl) ?_
  refine AList.nil ?_
  refine AWp.seq ?_
  refine AWp.region ?_
  refine AList.c 5 rfl rfl rfl (OpJ.move rfl rfl) ?_
  refine AList.c 6 rfl rfl rfl (OpJ.move rfl rfl) ?_
  refine AList.c 7 rfl rfl rfl (OpJ.andN s t rfl rfl rfl (by first | (show _ ≤ (9223372036854775807 : Int); omega) | (show _ ≤ (4294967295 : Int); omega)) (by first | decide | (show _ ≤ (9223372036854775807 : Int); omega) | (show _ ≤ (4294967295 : Int); omega))) ?_
  refine AList.c 8 rfl rfl rfl (OpJ.neq rfl rfl rfl) ?_
  refine AList.c 4 rfl rfl rfl (OpJ.assign rfl rfl) ?_
  refine AList.nil ?_
  refine AWp.ret ?_
  refine Fin.oneE rfl rfl ?_
  have e : (((s &&& t : Nat) : Int) = 0) = (s &&& t = 0) := propext ⟨fun h => by omega, fun h => by omega⟩
  simp only [e]
theorem common_ok (a b : Nat) (ha : a < 256) (hb : b < 256) : Pure Try.prog 48 [.int .i64 (a : Int), .int .i64 (b : Int)] (.bool (!decide (a &&& b = 0))) := by
  refine Pure.start (N := 18) Try.func48 rfl rfl (Nat.le_of_ble_eq_true rfl) ?_
  refine AWp.seq ?_
  refine AWp.region ?_
  refine AList.c 4 rfl rfl rfl (OpJ.assign rfl rfl) ?_
  refine AList.nil ?_
  refine AWp.seq ?_
  refine AWp.seq ?_
  refine AWp.region ?_
  refine AList.c 5 rfl rfl rfl (OpJ.assign rfl rfl) ?_
  refine AList.nil ?_
  refine AWp.block ?_
  refine AWp.loopK [4, 5, 6, 7, 8, 9, 10, 11, 12, 13, 14, 15, 16, 17] (fun g => [(5, .p (.int .i64 ((g : Nat) : Int)))]) (fun g => g ≤ 8 ∧ ∀ j, j < g → ¬ (a.testBit j = true ∧ b.testBit j = true)) (fun g => 8 - g) 0 ⟨by omega, fun j h => by omega⟩ (Sub.cons rfl (Sub.nil)) (fun i hg => ?_)
  obtain ⟨hg1, hg2⟩ := hg
  refine AWp.seq ?_
  refine AWp.seq ?_
  refine AWp.region ?_
  refine AList.c 6 rfl rfl rfl (OpJ.move rfl rfl) ?_
  refine AList.c 7 rfl rfl rfl (OpJ.lss rfl rfl rfl) ?_
  refine AList.nil ?_
  refine AWp.cond _ rfl (fun hc0 => ?_) (fun hc0 => ?_)
  · skip
    have hi8 : i < 8 := by simp at hc0; omega
    refine AWp.skip ?_
    refine AWp.seq ?_
    refine AWp.block ?_
    refine AWp.seq ?_
    refine AWp.region ?_
    refine AList.c 10 rfl rfl rfl (OpJ.move rfl rfl) ?_
    refine AList.c 11 rfl rfl rfl (OpJ.move rfl rfl) ?_
    refine AList.c 12 rfl rfl rfl (OpJ.callP (has_ok _ i (by omega) (by omega)) rfl rfl rfl rfl rf25) ?_
    refine AList.c 13 rfl rfl rfl (OpJ.move rfl rfl) ?_
    refine AList.g 14 13 rfl rfl rfl rfl rfl rfl rfl [(1, _)] (fun h => And.intro (.inl rfl) (trivial)) (fun h => (OpJ.move rfl rfl)) ?_
    refine AList.g 15 13 rfl rfl rfl rfl rfl rfl rfl [(5, _)] (fun h => And.intro (.inl rfl) (trivial)) (fun h => (OpJ.move rfl rfl)) ?_
    refine AList.g 16 13 rfl rfl rfl rfl rfl rfl rfl [(14, _), (15, _)] (fun h => And.intro (.inr ⟨_, rfl, h⟩) (And.intro (.inr ⟨_, rfl, h⟩) (trivial))) (fun h => (OpJ.callP (has_ok _ i (by omega) (by omega)) rfl rfl rfl rfl rf25)) ?_
    refine AList.c 17 rfl rfl rfl (OpJ.and_ rfl rfl rfl ?_) ?_
    · first | (intro h; rw [h]; rfl) | (intro h; simp_all)
    refine AList.nil ?_
    refine AWp.cond _ rfl (fun hc1 => ?_) (fun hc1 => ?_)
    · skip
      refine AWp.seq ?_
      refine AWp.region ?_
      refine AList.c 4 rfl rfl rfl (OpJ.assign rfl rfl) ?_
      refine AList.nil ?_
      refine AWp.ret ?_
      refine Fin.oneE rfl rfl ?_
      have h := hc1
      simp only [Bool.and_eq_true] at h
      have hne : ¬ a &&& b = 0 := fun e => (and_zero_iff _ _).1 e i h
      simp [hne]
    · skip
      refine AWp.skip ?_
      refine AWp.region ?_
      refine AList.c 8 rfl rfl rfl (OpJ.move rfl rfl) ?_
      refine AList.c 9 rfl rfl rfl (OpJ.add rfl rfl rfl (i64ok ?_)) ?_
      · omega
      refine AList.c 5 rfl rfl rfl (OpJ.assign rfl rfl) ?_
      refine AList.nil ?_
      refine ⟨i + 1, ?_, ?_, ?_⟩
      · refine ⟨by omega, fun j hj => ?_⟩
        rcases Nat.lt_succ_iff_lt_or_eq.1 hj with h | rfl
        · exact hg2 j h
        · intro h; rw [h.1, h.2] at hc1; cases hc1
      · omega
      exact To.done [] rfl (by repeat (first | exact Sub.nil | refine Sub.cons rfl ?_)) rfl
  · skip
    obtain rfl : i = 8 := by simp at hc0; omega
    refine AWp.exit ?_
    refine AWp.seq ?_
    refine AWp.region ?_
    refine AList.c 4 rfl rfl rfl (OpJ.assign rfl rfl) ?_
    refine AList.nil ?_
    refine AWp.ret ?_
    refine Fin.oneE rfl rfl ?_
    have he : a &&& b = 0 := by
      rw [and_zero_iff]
      intro j h
      rcases Nat.lt_or_ge j 8 with h8 | h8
      · exact hg2 j h8 h
      · have := Nat.testBit_lt_two_pow (Nat.lt_of_lt_of_le ha (Nat.pow_le_pow_right (n := 2) (by omega) h8))
        rw [h.1] at this; cases this
    simp [he]
end Go.Proofs.Ytpamkihpffoflaa
