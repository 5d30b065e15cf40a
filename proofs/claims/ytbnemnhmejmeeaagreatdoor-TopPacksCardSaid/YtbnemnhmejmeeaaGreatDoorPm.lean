/-
  Plain sums, by numbers and over lists. No program in sight.
  From what a statement's arguments may hold to plain lists. No condition; generic over any program.
  Searches, in plain Lean.
-/
import Derived.Test.YtbnemnhmejmeeaaGreatDoorFaC
section
set_option linter.unusedVariables false
set_option linter.unusedSimpArgs false
namespace Go.Proofs.YtbnemnhmejmeeaaGreatDoor
/-- A sum by numbers. -/
def isum (f : Nat → Int) : Nat → Int
  | 0 => 0
  | n + 1 => isum f n + f n
theorem isum_B {f : Nat → Int} {A B : Int} : ∀ n, (∀ j, j < n → A ≤ f j ∧ f j ≤ B) → A * n ≤ isum f n ∧ isum f n ≤ B * n
  | 0, _ => by simp [isum]
  | n + 1, h => by
    have ih := isum_B n (fun j hj => h j (by omega))
    have h1 := h n (by omega)
    simp only [isum]
    have e1 : A * ((n + 1 : Nat) : Int) = A * n + A := by rw [show ((n + 1 : Nat) : Int) = (n : Int) + 1 by omega, Int.mul_add, Int.mul_one]
    have e2 : B * ((n + 1 : Nat) : Int) = B * n + B := by rw [show ((n + 1 : Nat) : Int) = (n : Int) + 1 by omega, Int.mul_add, Int.mul_one]
    rw [e1, e2]
    omega
theorem isum_congr {f g : Nat → Int} : ∀ n, (∀ j, j < n → f j = g j) → isum f n = isum g n
  | 0, _ => rfl
  | n + 1, h => by simp only [isum]; rw [isum_congr n (fun j hj => h j (by omega)), h n (by omega)]
theorem isum_zero {f : Nat → Int} : ∀ n, (∀ j, j < n → f j = 0) → isum f n = 0
  | 0, _ => rfl
  | n + 1, h => by simp only [isum]; rw [isum_zero n (fun j hj => h j (by omega)), h n (by omega)]; rfl
theorem isum_turn {f g : Nat → Int} {k : Nat} : ∀ n, k < n → (∀ j, j < n → j ≠ k → g j = f j) → isum g n = isum f n - f k + g k
  | 0, h, _ => by omega
  | n + 1, h, hj => by
    simp only [isum]
    by_cases e : k = n
    · subst e
      rw [isum_congr (f := g) (g := f) k (fun j h1 => hj j (by omega) (by omega))]
      omega
    · rw [isum_turn (f := f) (g := g) n (by omega) (fun j h1 h2 => hj j (by omega) h2), hj n (by omega) (by omega)]
      omega
theorem isum_add (f g : Nat → Int) : ∀ n, isum (fun j => f j + g j) n = isum f n + isum g n
  | 0 => rfl
  | n + 1 => by simp only [isum]; rw [isum_add f g n]; omega
theorem lsum_mono {α : Type} {f g : α → Int} : ∀ l : List α, (∀ x ∈ l, f x ≤ g x) → (l.map f).sum ≤ (l.map g).sum
  | [], _ => Int.le_refl _
  | x :: l, h => by
    have := lsum_mono l (fun y hy => h y (by simp [hy]))
    have := h x (by simp)
    simp only [List.map_cons, List.sum_cons]
    omega
theorem lsum_add {α : Type} (f g : α → Int) : ∀ l : List α, (l.map fun x => f x + g x).sum = (l.map f).sum + (l.map g).sum
  | [] => rfl
  | x :: l => by simp only [List.map_cons, List.sum_cons, lsum_add f g l]; omega
theorem lsum_nonneg {α : Type} {f : α → Int} (l : List α) (h : ∀ x ∈ l, 0 ≤ f x) : 0 ≤ (l.map f).sum := by
  have := lsum_mono (f := fun _ => 0) (g := f) l h
  have e : (l.map fun _ : α => (0 : Int)).sum = 0 := by
    clear this h
    induction l with
    | nil => rfl
    | cons x l ih => simp only [List.map_cons, List.sum_cons, ih]; rfl
  omega
end Go.Proofs.YtbnemnhmejmeeaaGreatDoor
end

section
set_option linter.unusedVariables false
namespace Go.Proofs.YtbnemnhmejmeeaaGreatDoor
open Go.AF
theorem kints_of (k : IntKind) {n : Nat} {el : List PV} : TyL (List.replicate n (.leaf (.int k))) el → ∃ xs : List Int, xs.length = n ∧ el = xs.map (PV.int k) ∧ ∀ x ∈ xs, (k.min ≤ x ∧ x ≤ k.max) := by
  induction n generalizing el with
  | zero => intro h; cases h; exact ⟨[], rfl, rfl, fun x hx => by cases hx⟩
  | succ n ih =>
    intro h
    cases h with
    | cons _ _ x xs h1 h2 =>
      obtain ⟨ys, e1, e2, e3⟩ := ih h2
      cases h1 with
      | int _ v hw => exact ⟨v :: ys, by simp [e1], by rw [e2]; rfl, fun x hx => by
          rcases List.mem_cons.1 hx with rfl | hx
          · simpa only [Lit.wf, Bool.and_eq_true, decide_eq_true_eq] using hw
          · exact e3 x hx⟩
theorem lst_of {α : Type} {f : α → List PV} {p : List PV → Prop} (hp : ∀ el, p el → ∃ a, el = f a) : ∀ els : List (List PV), (∀ (i : Nat) (el : List PV), els[i]? = some el → p el) → ∃ l : List α, els.flatten = l.flatMap f ∧ l.length = els.length
  | [], _ => ⟨[], rfl, rfl⟩
  | e :: els, h => by
    obtain ⟨a, ha⟩ := hp e (h 0 e rfl)
    obtain ⟨l, h1, h2⟩ := lst_of hp els (fun i el hi => h (i + 1) el (by simpa using hi))
    exact ⟨a :: l, by simp [ha, h1], by simp [h2]⟩
theorem sl_of {α : Type} {f : α → List PV} {sh : List Sh} (hp : ∀ el, TyL sh el → ∃ a, el = f a) {x : List PV} (h : TyL [.sl sh] x) : ∃ l : List α, x = [.is (l.flatMap f) l.length] ∧ l.length ≤ 9223372036854775807 := by
  cases h with
  | cons _ _ y ys h1 h2 =>
    cases h2
    cases h1 with
    | sl _ els hl hel =>
      obtain ⟨l, e1, e2⟩ := lst_of hp els hel
      exact ⟨l, by rw [e1, e2], by rw [e2]; exact hl⟩
theorem kint_of (k : IntKind) {x : List PV} (h : TyL [.leaf (.int k)] x) : ∃ n : Int, x = [.int k n] ∧ (k.min ≤ n ∧ n ≤ k.max) := by
  obtain ⟨xs, e1, e2, e3⟩ := kints_of k (n := 1) h
  match xs, e1 with
  | [a], _ => exact ⟨a, e2, e3 a (by simp)⟩
theorem int_of {x : List PV} (h : TyL [.leaf (.int .i64)] x) : ∃ n : Int, x = [.int .i64 n] := by
  obtain ⟨n, e, _⟩ := kint_of .i64 h
  exact ⟨n, e⟩
theorem ints_of {n : Nat} {el : List PV} (h : TyL (List.replicate n (.leaf (.int .i64))) el) : ∃ xs : List Int, xs.length = n ∧ el = xs.map (PV.int .i64) := by
  obtain ⟨xs, e1, e2, _⟩ := kints_of .i64 h
  exact ⟨xs, e1, e2⟩
end Go.Proofs.YtbnemnhmejmeeaaGreatDoor
end

section
set_option linter.unusedVariables false
set_option linter.unusedSimpArgs false
namespace Go.Proofs.YtbnemnhmejmeeaaGreatDoor
/-- Where a predicate first holds; -1: nowhere. -/
def idxF {α : Type} (p : α → Bool) : List α → Int
  | [] => -1
  | x :: xs => if p x then 0 else let r := idxF p xs; if r < 0 then -1 else r + 1
theorem idxF_at {α : Type} (p : α → Bool) : ∀ (xs : List α) (i : Nat) (h : i < xs.length), (∀ j (hj : j < i), p (xs[j]'(by omega)) = false) → p xs[i] = true → idxF p xs = i
  | x :: xs, 0, h, h1, h2 => by simp at h2; simp [idxF, h2]
  | x :: xs, i + 1, h, h1, h2 => by
    have h3 := h1 0 (by omega)
    simp at h3
    have ih := idxF_at p xs i (by simpa using h) (fun j hj => by have := h1 (j + 1) (by omega); simpa using this) (by simpa using h2)
    simp only [idxF, h3, ih]
    simp
    omega
theorem idxF_none {α : Type} (p : α → Bool) : ∀ xs : List α, (∀ j (hj : j < xs.length), p xs[j] = false) → idxF p xs = -1
  | [], _ => rfl
  | x :: xs, h => by
    have h3 := h 0 (by simp)
    simp at h3
    have ih := idxF_none p xs (fun j hj => by have := h (j + 1) (by simpa using hj); simpa using this)
    simp [idxF, h3, ih]
theorem idxF_any {α : Type} (p : α → Bool) : ∀ xs : List α, decide (0 ≤ idxF p xs) = xs.any p
  | [] => rfl
  | x :: xs => by
    have ih := idxF_any p xs
    simp only [idxF, List.any_cons, ← ih]
    cases p x with
    | true => simp
    | false =>
      simp
      split
      · simp; omega
      · omega

end Go.Proofs.YtbnemnhmejmeeaaGreatDoor
end
