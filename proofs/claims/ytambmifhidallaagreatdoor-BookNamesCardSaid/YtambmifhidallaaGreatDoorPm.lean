/-
  Plain sums, by numbers and over lists. No program in sight.
  Searches, in plain Lean.
  From what a statement's arguments may hold to plain lists. No condition; generic over any program.
-/
import Derived.Test.YtambmifhidallaaGreatDoorFaC
section
set_option linter.unusedVariables false
set_option linter.unusedSimpArgs false
namespace Go.Proofs.YtambmifhidallaaGreatDoor
/-- A sum by numbers. -/
def isum (f : Nat → Int) : Nat → Int
  | 0 => 0
  | n + 1 => isum f n + f n
end Go.Proofs.YtambmifhidallaaGreatDoor
end

section
set_option linter.unusedVariables false
set_option linter.unusedSimpArgs false
namespace Go.Proofs.YtambmifhidallaaGreatDoor
/-- Where a predicate first holds; -1: nowhere. -/
def idxF {α : Type} (p : α → Bool) : List α → Int
  | [] => -1
  | x :: xs => if p x then 0 else let r := idxF p xs; if r < 0 then -1 else r + 1
theorem idxF_at {α : Type} (p : α → Bool) : ∀ (xs : List α) (i : Nat) (h : i < xs.length), (∀ j (hj : j < i), p (xs[j]'(by omega)) = false) → p xs[i] = true → idxF p xs = i
  | x :: xs, 0, h, h1, h2 => by simp at h2; simp [idxF, h2]
  | x :: xs, i + 1, h, h1, h2 => by
    have h3 := h1 0 (by omega)
    simp at h3
    have ih := idxF_at p xs i (by simpa using h) (fun j hj => by have := h1 (j + 1) (by omega); simpa using this) (by simpa using h2)
    simp only [idxF, h3, ih]
    simp
    omega
theorem idxF_none {α : Type} (p : α → Bool) : ∀ xs : List α, (∀ j (hj : j < xs.length), p xs[j] = false) → idxF p xs = -1
  | [], _ => rfl
  | x :: xs, h => by
    have h3 := h 0 (by simp)
    simp at h3
    have ih := idxF_none p xs (fun j hj => by have := h (j + 1) (by simpa using hj); simpa using this)
    simp [idxF, h3, ih]
theorem idxF_any {α : Type} (p : α → Bool) : ∀ xs : List α, decide (0 ≤ idxF p xs) = xs.any p
  | [] => rfl
  | x :: xs => by
    have ih := idxF_any p xs
    simp only [idxF, List.any_cons, ← ih]
    cases p x with
    | true => simp
    | false =>
      simp
      split
      · simp; omega
      · omega

end Go.Proofs.YtambmifhidallaaGreatDoor
end

section
set_option linter.unusedVariables false
namespace Go.Proofs.YtambmifhidallaaGreatDoor
open Go.AF
end Go.Proofs.YtambmifhidallaaGreatDoor
end
