/-
  The greatest number that can be.
-/
import Derived.Test.YtpamkihpffoflaaBx11
set_option linter.unusedVariables false
set_option maxRecDepth 100000
set_option maxHeartbeats 4000000
set_option linter.unusedSimpArgs false
namespace Go.Proofs.Ytpamkihpffoflaa
open Go.AF
theorem search_ok (n r : Nat) (fn : Fn) (fi ca : List PV) (p : Nat → Bool) (hn : n ≤ 140737488355328) (hr : r ≤ n) (h1 : ∀ i, i < r → p i = false) (h2 : ∀ i, r ≤ i → i < n → p i = true) (hf : ∀ i, i < n → FPure Try.prog (.func fn fi ca) [.int .i64 ((i : Nat) : Int)] (.bool (p i))) : Pure Try.prog 57 [.int .i64 (n : Int), .func fn fi ca] (.int .i64 (r : Int)) := by
  refine Pure.start (N := 26) Try.func57 rfl rfl (Nat.le_of_ble_eq_true rfl) ?_
  refine AWp.seq ?_
  refine AWp.region ?_
  refine AList.c 4 rfl rfl rfl (OpJ.assign rfl rfl) ?_
  refine AList.nil ?_
  refine AWp.seq ?_
  refine AWp.region ?_
  refine AList.c 8 rfl rfl rfl (OpJ.move rfl rfl) ?_
  refine AList.c 5 rfl rfl rfl (OpJ.assign rfl rfl) ?_
  refine AList.c 6 rfl rfl rfl (OpJ.assign rfl rfl) ?_
  refine AList.nil ?_
  refine AWp.seq ?_
  refine AWp.block ?_
  refine AWp.loopK [5, 6, 7, 9, 10, 11, 12, 13, 14, 15, 16, 17, 18, 19, 20, 21, 22, 23, 24] (fun g => [(5, .p (.int .i64 ((g.1 : Nat) : Int))), (6, .p (.int .i64 ((g.2 : Nat) : Int)))]) (fun g => g.1 ≤ r ∧ r ≤ g.2 ∧ g.2 ≤ n) (fun g => g.2 - g.1) (0, n) ⟨Nat.zero_le _, hr, Nat.le_refl _⟩ (Sub.cons rfl (Sub.cons rfl (Sub.nil))) (fun g hg => ?_)
  obtain ⟨i, j⟩ := g
  obtain ⟨hi, hj, hjn⟩ := hg
  dsimp only at hi hj hjn ⊢
  refine AWp.seq ?_
  refine AWp.seq ?_
  refine AWp.region ?_
  refine AList.c 9 rfl rfl rfl (OpJ.move rfl rfl) ?_
  refine AList.c 10 rfl rfl rfl (OpJ.move rfl rfl) ?_
  refine AList.c 11 rfl rfl rfl (OpJ.lss rfl rfl rfl) ?_
  refine AList.nil ?_
  refine AWp.cond _ rfl (fun hc0 => ?_) (fun hc0 => ?_)
  · skip
    have hij : i < j := by simp at hc0; omega
    have hf0 := hf ((i + j) / 2) (by omega)
    refine AWp.skip ?_
    refine AWp.block ?_
    refine AWp.seq ?_
    refine AWp.region ?_
    refine AList.c 12 rfl rfl rfl (OpJ.move rfl rfl) ?_
    refine AList.c 13 rfl rfl rfl (OpJ.move rfl rfl) ?_
    refine AList.c 14 rfl rfl rfl (OpJ.add rfl rfl rfl (i64ok ?_)) ?_
    · omega
    refine AList.c 15 rfl rfl rfl (OpJ.convInt rfl rfl (by rw [un3]; rfl) un87 (u64ok ?_)) ?_
    · omega
    refine AList.c 16 rfl rfl rfl (OpJ.shr (m := (((i + j) / 2 : Nat) : Int)) rfl rfl rfl (by decide) ?_) ?_
    · refine shr1.trans ?_; omega
    refine AList.c 17 rfl rfl rfl (OpJ.convInt rfl rfl (by rw [un87]; rfl) un3 (i64ok ?_)) ?_
    · omega
    refine AList.c 7 rfl rfl rfl (OpJ.assign rfl rfl) ?_
    refine AList.nil ?_
    refine AWp.seq ?_
    refine AWp.region ?_
    refine AList.c 18 rfl rfl rfl (OpJ.move rfl rfl) ?_
    refine AList.c 19 rfl rfl rfl (OpJ.move rfl rfl) ?_
    refine AList.c 20 rfl rfl rfl (OpJ.callF (hf0) rfl rfl rfl) ?_
    refine AList.c 21 rfl rfl rfl (OpJ.not_ rfl rfl) ?_
    refine AList.nil ?_
    refine AWp.cond _ rfl (fun hc1 => ?_) (fun hc1 => ?_)
    · skip
      have q1 : p ((i + j) / 2) = false := by simpa using hc1
      have q2 : (i + j) / 2 + 1 ≤ r := by rcases Nat.lt_or_ge ((i + j) / 2) r with h | h; { omega }; { have := h2 _ h (by omega); rw [q1] at this; cases this }
      refine AWp.region ?_
      refine AList.c 22 rfl rfl rfl (OpJ.move rfl rfl) ?_
      refine AList.c 23 rfl rfl rfl (OpJ.add rfl rfl rfl (i64ok ?_)) ?_
      · omega
      refine AList.c 5 rfl rfl rfl (OpJ.assign rfl rfl) ?_
      refine AList.nil ?_
      refine ⟨((i + j) / 2 + 1, j), ?_, ?_, ?_⟩
      · exact ⟨q2, hj, hjn⟩
      · dsimp only; omega
      exact To.done [] rfl (by repeat (first | exact Sub.nil | refine Sub.cons rfl ?_)) rfl
    · skip
      have q1 : p ((i + j) / 2) = true := by simpa using hc1
      have q2 : r ≤ (i + j) / 2 := by rcases Nat.lt_or_ge ((i + j) / 2) r with h | h; { have := h1 _ h; rw [q1] at this; cases this }; { omega }
      refine AWp.region ?_
      refine AList.c 24 rfl rfl rfl (OpJ.move rfl rfl) ?_
      refine AList.c 6 rfl rfl rfl (OpJ.assign rfl rfl) ?_
      refine AList.nil ?_
      refine ⟨(i, (i + j) / 2), ?_, ?_, ?_⟩
      · exact ⟨hi, q2, by dsimp only; omega⟩
      · dsimp only; omega
      exact To.done [] rfl (by repeat (first | exact Sub.nil | refine Sub.cons rfl ?_)) rfl
  · skip
    obtain rfl : i = r := by simp at hc0; omega
    refine AWp.exit ?_
    refine AWp.seq ?_
    refine AWp.region ?_
    refine AList.c 25 rfl rfl rfl (OpJ.move rfl rfl) ?_
    refine AList.c 4 rfl rfl rfl (OpJ.assign rfl rfl) ?_
    refine AList.nil ?_
    refine AWp.ret ?_
    refine Fin.oneE rfl rfl ?_
    rfl
theorem great1_ok (i : Nat) (f : PV) (q : Bool) (hi : i ≤ 8388608) (hf : FPure Try.prog f [.int .i64 ((i + 1 : Nat) : Int)] (.bool q)) : Pure Try.prog 58 [.int .i64 (i : Int), .ip [f] 0] (.bool (!q)) := by
  refine Pure.start (N := 9) Try.func58 rfl rfl (Nat.le_of_ble_eq_true rfl) ?_
  refine AWp.seq ?_
  refine AWp.region ?_
  refine AList.c 3 rfl rfl rfl (OpJ.assign rfl rfl) ?_
  refine AList.nil ?_
  refine AWp.seq ?_
  refine AWp.region ?_
  refine AList.c 4 rfl rfl rfl (OpJ.load rfl rfl ty57 rfl) ?_
  refine AList.c 5 rfl rfl rfl (OpJ.move rfl rfl) ?_
  refine AList.c 6 rfl rfl rfl (OpJ.add (m := ((i + 1 : Nat) : Int)) rfl rfl rfl ((i64ok ?_).trans ?_)) ?_
  · omega
  · omega
  refine AList.c 7 rfl rfl rfl (OpJ.callF (hf) rfl rfl rfl) ?_
  refine AList.c 8 rfl rfl rfl (OpJ.not_ rfl rfl) ?_
  refine AList.c 3 rfl rfl rfl (OpJ.assign rfl rfl) ?_
  refine AList.nil ?_
  refine AWp.ret ?_
  exact Fin.one rfl (rfl)
theorem great_ok (n r : Nat) (fn : Fn) (fi ca : List PV) (p : Nat → Bool) (hn : n ≤ 8388608) (hr : r ≤ n) (h1 : ∀ i, i < r → p (i + 1) = true) (h2 : ∀ i, r ≤ i → i < n → p (i + 1) = false) (hf : ∀ i, i < n → FPure Try.prog (.func fn fi ca) [.int .i64 ((i + 1 : Nat) : Int)] (.bool (p (i + 1)))) : Pure Try.prog 30 [.int .i64 (n : Int), .func fn fi ca] (.int .i64 (r : Int)) := by
  refine Pure.start (N := 8) Try.func30 rfl rfl (Nat.le_of_ble_eq_true rfl) ?_
  refine AWp.seq ?_
  refine AWp.region ?_
  refine AList.c 3 rfl rfl rfl (OpJ.boxImm rfl rfl rfl) ?_
  refine AList.c 4 rfl rfl rfl (OpJ.assign rfl rfl) ?_
  refine AList.nil ?_
  refine AWp.seq ?_
  refine AWp.region ?_
  refine AList.c 5 rfl rfl rfl (OpJ.move rfl rfl) ?_
  refine AList.c 6 rfl rfl rfl (OpJ.makeFunc rfl rfl rfl) ?_
  refine AList.c 7 rfl rfl rfl (OpJ.callP (search_ok n r (.func 58) [] [.ip [.func fn fi ca] 0] (fun i => !p (i + 1)) (by omega) hr (fun i hi => by show (!p (i + 1)) = false; rw [h1 i hi]; rfl) (fun i a b => by show (!p (i + 1)) = true; rw [h2 i a b]; rfl) (fun i hi => ⟨58, [.int .i64 (i : Int), .ip [.func fn fi ca] 0], rfl, rf58, great1_ok i (.func fn fi ca) _ (by omega) (hf i hi)⟩)) rfl rfl rfl rfl rf57) ?_
  refine AList.c 4 rfl rfl rfl (OpJ.assign rfl rfl) ?_
  refine AList.nil ?_
  refine AWp.ret ?_
  exact Fin.one rfl (rfl)
theorem most1_ok (need : List Int) (l : List Pl) (b : Int) (h0 : 0 < need.length) (hn : okN need) (h8 : need.length ≤ 8) (hl : okP need.length l) (b0 : 0 ≤ b) (b1 : b ≤ 10000000000) : Pure Try.prog 31 [.int .i64 b, .ip [intsV need] 0, .ip [plV l] 0] (.bool (canB need l b)) := by
  refine Pure.start (N := 10) Try.func31 rfl rfl (Nat.le_of_ble_eq_true rfl) ?_
  refine AWp.seq ?_
  refine AWp.region ?_
  refine AList.c 4 rfl rfl rfl (OpJ.assign rfl rfl) ?_
  refine AList.nil ?_
  refine AWp.seq ?_
  refine AWp.regionDraw 6 mixed (by kernel_rfl) (by decide) ?_
  refine AQuiet.cons 5 rfl rfl rfl (OpJ.load rfl rfl ty22 rfl) ?_
  refine AQuiet.cons 6 rfl rfl rfl (OpJ.move rfl rfl) ?_
  refine AQuiet.cons 7 rfl rfl rfl (OpJ.callP (btimes_ok need b h0 hn h8 b0 b1) rfl rfl rfl rfl rf33) ?_
  refine AQuiet.cons 8 rfl rfl rfl (OpJ.load rfl rfl ty23 rfl) ?_
  refine AQuiet.cons 9 rfl rfl rfl (OpJ.callP (can_t need l b h0 hn h8 hl b0 b1) rfl rfl rfl rfl rf32) ?_
  refine AQuiet.cons 4 rfl rfl rfl (OpJ.assign rfl rfl) ?_
  refine AQuiet.nil ?_
  refine AList.nil ?_
  refine AWp.ret ?_
  exact Fin.one rfl (rfl)
end Go.Proofs.Ytpamkihpffoflaa
