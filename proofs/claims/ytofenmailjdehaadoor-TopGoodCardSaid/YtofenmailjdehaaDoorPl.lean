/-
  Plain sums, by numbers and over lists. No program in sight.
-/
set_option linter.unusedVariables false
set_option linter.unusedSimpArgs false
namespace Go.Proofs.YtofenmailjdehaaDoor
/-- A sum by numbers. -/
def isum (f : Nat → Int) : Nat → Int
  | 0 => 0
  | n + 1 => isum f n + f n
theorem isum_B {f : Nat → Int} {A B : Int} : ∀ n, (∀ j, j < n → A ≤ f j ∧ f j ≤ B) → A * n ≤ isum f n ∧ isum f n ≤ B * n
  | 0, _ => by simp [isum]
  | n + 1, h => by
    have ih := isum_B n (fun j hj => h j (by omega))
    have h1 := h n (by omega)
    simp only [isum]
    have e1 : A * ((n + 1 : Nat) : Int) = A * n + A := by rw [show ((n + 1 : Nat) : Int) = (n : Int) + 1 by omega, Int.mul_add, Int.mul_one]
    have e2 : B * ((n + 1 : Nat) : Int) = B * n + B := by rw [show ((n + 1 : Nat) : Int) = (n : Int) + 1 by omega, Int.mul_add, Int.mul_one]
    rw [e1, e2]
    omega
theorem isum_congr {f g : Nat → Int} : ∀ n, (∀ j, j < n → f j = g j) → isum f n = isum g n
  | 0, _ => rfl
  | n + 1, h => by simp only [isum]; rw [isum_congr n (fun j hj => h j (by omega)), h n (by omega)]
theorem isum_zero {f : Nat → Int} : ∀ n, (∀ j, j < n → f j = 0) → isum f n = 0
  | 0, _ => rfl
  | n + 1, h => by simp only [isum]; rw [isum_zero n (fun j hj => h j (by omega)), h n (by omega)]; rfl
theorem isum_turn {f g : Nat → Int} {k : Nat} : ∀ n, k < n → (∀ j, j < n → j ≠ k → g j = f j) → isum g n = isum f n - f k + g k
  | 0, h, _ => by omega
  | n + 1, h, hj => by
    simp only [isum]
    by_cases e : k = n
    · subst e
      rw [isum_congr (f := g) (g := f) k (fun j h1 => hj j (by omega) (by omega))]
      omega
    · rw [isum_turn (f := f) (g := g) n (by omega) (fun j h1 h2 => hj j (by omega) h2), hj n (by omega) (by omega)]
      omega
theorem isum_add (f g : Nat → Int) : ∀ n, isum (fun j => f j + g j) n = isum f n + isum g n
  | 0 => rfl
  | n + 1 => by simp only [isum]; rw [isum_add f g n]; omega
theorem isum_mul (c : Int) (f : Nat → Int) : ∀ n, isum (fun j => c * f j) n = c * isum f n
  | 0 => by simp [isum]
  | n + 1 => by simp only [isum]; rw [isum_mul c f n, Int.mul_add]
theorem isum_mono {f g : Nat → Int} : ∀ n, (∀ j, j < n → f j ≤ g j) → isum f n ≤ isum g n
  | 0, _ => Int.le_refl _
  | n + 1, h => by
    have := isum_mono n (fun j hj => h j (by omega))
    have := h n (by omega)
    simp only [isum]; omega
theorem isum_nonneg {f : Nat → Int} (n : Nat) (h : ∀ j, j < n → 0 ≤ f j) : 0 ≤ isum f n := by
  have := isum_mono (f := fun _ => 0) (g := f) n h
  rw [isum_zero n (fun _ _ => rfl)] at this
  exact this
/-- One of the terms, where none is negative. -/
theorem isum_one {f : Nat → Int} {n k : Nat} (h : ∀ j, j < n → 0 ≤ f j) (hk : k < n) : f k ≤ isum f n := by
  have h1 := isum_turn (f := f) (g := fun j => if j = k then 0 else f j) n hk (fun j _ hj => if_neg hj)
  have h2 := isum_nonneg (f := fun j => if j = k then 0 else f j) n (fun j hj => by
    by_cases e : j = k
    · simp [e]
    · simp [e]; exact h j hj)
  rw [h1] at h2
  simp at h2
  omega
theorem lsum_mono {α : Type} {f g : α → Int} : ∀ l : List α, (∀ x ∈ l, f x ≤ g x) → (l.map f).sum ≤ (l.map g).sum
  | [], _ => Int.le_refl _
  | x :: l, h => by
    have := lsum_mono l (fun y hy => h y (by simp [hy]))
    have := h x (by simp)
    simp only [List.map_cons, List.sum_cons]
    omega
theorem lsum_add {α : Type} (f g : α → Int) : ∀ l : List α, (l.map fun x => f x + g x).sum = (l.map f).sum + (l.map g).sum
  | [] => rfl
  | x :: l => by simp only [List.map_cons, List.sum_cons, lsum_add f g l]; omega
theorem lsum_nonneg {α : Type} {f : α → Int} (l : List α) (h : ∀ x ∈ l, 0 ≤ f x) : 0 ≤ (l.map f).sum := by
  have := lsum_mono (f := fun _ => 0) (g := f) l h
  have e : (l.map fun _ : α => (0 : Int)).sum = 0 := by
    clear this h
    induction l with
    | nil => rfl
    | cons x l ih => simp only [List.map_cons, List.sum_cons, ih]; rfl
  omega
/-- The greatest number, from 0 on, up to which something holds. -/
theorem exists_cut (p : Nat → Bool) : ∀ n, (∀ i j, i ≤ j → j < n → p i = true → p j = true) → ∃ r, r ≤ n ∧ (∀ i, i < r → p i = false) ∧ ∀ i, r ≤ i → i < n → p i = true
  | 0, _ => ⟨0, Nat.le_refl _, fun i h => by omega, fun i _ h => by omega⟩
  | n + 1, hp => by
    obtain ⟨r, h1, h2, h3⟩ := exists_cut p n (fun i j hij hj => hp i j hij (by omega))
    cases hn : p n with
    | true =>
      refine ⟨r, by omega, h2, fun i hi hj => ?_⟩
      rcases Nat.lt_succ_iff_lt_or_eq.1 hj with h | rfl
      · exact h3 i hi h
      · exact hn
    | false =>
      refine ⟨n + 1, Nat.le_refl _, fun i hi => ?_, fun i h h' => by omega⟩
      cases hpi : p i with
      | false => rfl
      | true =>
        have := hp i n (by omega) (by omega) hpi
        rw [hn] at this; cases this
end Go.Proofs.YtofenmailjdehaaDoor
