/-
  What the search for the greatest number of boxes finds. No program in sight.
-/
import Derived.Test.YtpamkihpffoflaaBxM
set_option linter.unusedVariables false
set_option linter.unusedSimpArgs false
namespace Go.Proofs.Ytpamkihpffoflaa
theorem allS_bit (n i : Nat) (h : i < n) : (allS n).testBit i = true := by
  unfold allS
  rw [Nat.testBit_two_pow_sub_one]
  simpa using h
/-- All shades' set needs all there is to need. -/
theorem sumS_all (need : List Int) : sumS need (allS need.length) = need.sum := by
  have gen : ∀ k, k ≤ need.length → sumN need (allS need.length) k = (need.take k).sum := by
    intro k
    induction k with
    | zero => intro _; simp [sumN, isum]
    | succ k ih =>
      intro hk
      rw [sumN_succ (by omega), take_sum (by omega), ih (by omega), if_pos (allS_bit _ _ (by omega))]
  rw [sumS_sumN, gen _ (Nat.le_refl _), List.take_length]
theorem most_cut {need : List Int} {l : List Pr} (h : Vld need l) : ∃ r : Nat, quF need (toPl l) (allS need.length) = (r : Int) ∧ r ≤ 8388608 ∧ (∀ i, i < r → canB need (toPl l) ((i + 1 : Nat) : Int) = true) ∧ ∀ i, r ≤ i → i < 8388608 → canB need (toPl l) ((i + 1 : Nat) : Int) = false := by
  have hl := toPl_ok h
  have hn := h.2.2.1
  have hs : 0 < sumS need (allS need.length) := by rw [sumS_all]; exact h.2.2.2.2
  have h2 : 2 ^ 1 ≤ 2 ^ need.length := Nat.pow_le_pow_right (by omega) h.1.1
  obtain ⟨a, b, c⟩ := most_spec (l := toPl l) hl.pos hn ⟨allS need.length, by unfold allS; omega, Nat.le_refl _, hs⟩
  have hb := quF_B hn h.1.2 hl (allS need.length)
  refine ⟨(quF need (toPl l) (allS need.length)).toNat, by omega, by omega, fun i hi => canB_mono hn (by omega) b, fun i hi _ => ?_⟩
  cases e : canB need (toPl l) ((i + 1 : Nat) : Int) with
  | false => rfl
  | true =>
    have := canB_mono hn (show quF need (toPl l) (allS need.length) + 1 ≤ ((i + 1 : Nat) : Int) by omega) e
    rw [c] at this
    cases this
end Go.Proofs.Ytpamkihpffoflaa
