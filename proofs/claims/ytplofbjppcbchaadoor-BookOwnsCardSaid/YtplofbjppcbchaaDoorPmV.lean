/-
  Plain sums, by numbers and over lists. No program in sight.
  Searches, in plain Lean.
  From what a statement's arguments may hold to plain lists. No condition; generic over any program.
-/
import Derived.Test.YtplofbjppcbchaaDoorFaVC
section
set_option linter.unusedVariables false
set_option linter.unusedSimpArgs false
namespace Go.Proofs.YtplofbjppcbchaaDoor
end Go.Proofs.YtplofbjppcbchaaDoor
end

section
set_option linter.unusedVariables false
set_option linter.unusedSimpArgs false
namespace Go.Proofs.YtplofbjppcbchaaDoor
/-- Where a predicate first holds; -1: nowhere. -/
def idxF {α : Type} (p : α → Bool) : List α → Int
  | [] => -1
  | x :: xs => if p x then 0 else let r := idxF p xs; if r < 0 then -1 else r + 1
theorem idxF_at {α : Type} (p : α → Bool) : ∀ (xs : List α) (i : Nat) (h : i < xs.length), (∀ j (hj : j < i), p (xs[j]'(by omega)) = false) → p xs[i] = true → idxF p xs = i
  | x :: xs, 0, h, h1, h2 => by simp at h2; simp [idxF, h2]
  | x :: xs, i + 1, h, h1, h2 => by
    have h3 := h1 0 (by omega)
    simp at h3
    have ih := idxF_at p xs i (by simpa using h) (fun j hj => by have := h1 (j + 1) (by omega); simpa using this) (by simpa using h2)
    simp only [idxF, h3, ih]
    simp
    omega
theorem idxF_none {α : Type} (p : α → Bool) : ∀ xs : List α, (∀ j (hj : j < xs.length), p xs[j] = false) → idxF p xs = -1
  | [], _ => rfl
  | x :: xs, h => by
    have h3 := h 0 (by simp)
    simp at h3
    have ih := idxF_none p xs (fun j hj => by have := h (j + 1) (by simpa using hj); simpa using this)
    simp [idxF, h3, ih]
theorem idxF_any {α : Type} (p : α → Bool) : ∀ xs : List α, decide (0 ≤ idxF p xs) = xs.any p
  | [] => rfl
  | x :: xs => by
    have ih := idxF_any p xs
    simp only [idxF, List.any_cons, ← ih]
    cases p x with
    | true => simp
    | false =>
      simp
      split
      · simp; omega
      · omega

end Go.Proofs.YtplofbjppcbchaaDoor
end

section
set_option linter.unusedVariables false
namespace Go.Proofs.YtplofbjppcbchaaDoor
open Go.AF
theorem kints_of (k : IntKind) {n : Nat} {el : List PV} : TyL (List.replicate n (.leaf (.int k))) el → ∃ xs : List Int, xs.length = n ∧ el = xs.map (PV.int k) ∧ ∀ x ∈ xs, (k.min ≤ x ∧ x ≤ k.max) := by
  induction n generalizing el with
  | zero => intro h; cases h; exact ⟨[], rfl, rfl, fun x hx => by cases hx⟩
  | succ n ih =>
    intro h
    cases h with
    | cons _ _ x xs h1 h2 =>
      obtain ⟨ys, e1, e2, e3⟩ := ih h2
      cases h1 with
      | int _ v hw => exact ⟨v :: ys, by simp [e1], by rw [e2]; rfl, fun x hx => by
          rcases List.mem_cons.1 hx with rfl | hx
          · simpa only [Lit.wf, Bool.and_eq_true, decide_eq_true_eq] using hw
          · exact e3 x hx⟩
theorem lst_of {α : Type} {f : α → List PV} {p : List PV → Prop} (hp : ∀ el, p el → ∃ a, el = f a) : ∀ els : List (List PV), (∀ (i : Nat) (el : List PV), els[i]? = some el → p el) → ∃ l : List α, els.flatten = l.flatMap f ∧ l.length = els.length
  | [], _ => ⟨[], rfl, rfl⟩
  | e :: els, h => by
    obtain ⟨a, ha⟩ := hp e (h 0 e rfl)
    obtain ⟨l, h1, h2⟩ := lst_of hp els (fun i el hi => h (i + 1) el (by simpa using hi))
    exact ⟨a :: l, by simp [ha, h1], by simp [h2]⟩
theorem sl_of {α : Type} {f : α → List PV} {sh : List Sh} (hp : ∀ el, TyL sh el → ∃ a, el = f a) {x : List PV} (h : TyL [.sl sh] x) : ∃ l : List α, x = [.is (l.flatMap f) l.length] ∧ l.length ≤ 9223372036854775807 := by
  cases h with
  | cons _ _ y ys h1 h2 =>
    cases h2
    cases h1 with
    | sl _ els hl hel =>
      obtain ⟨l, e1, e2⟩ := lst_of hp els hel
      exact ⟨l, by rw [e1, e2], by rw [e2]; exact hl⟩
theorem kint_of (k : IntKind) {x : List PV} (h : TyL [.leaf (.int k)] x) : ∃ n : Int, x = [.int k n] ∧ (k.min ≤ n ∧ n ≤ k.max) := by
  obtain ⟨xs, e1, e2, e3⟩ := kints_of k (n := 1) h
  match xs, e1 with
  | [a], _ => exact ⟨a, e2, e3 a (by simp)⟩
theorem int_of {x : List PV} (h : TyL [.leaf (.int .i64)] x) : ∃ n : Int, x = [.int .i64 n] := by
  obtain ⟨n, e, _⟩ := kint_of .i64 h
  exact ⟨n, e⟩
theorem ints_of {n : Nat} {el : List PV} (h : TyL (List.replicate n (.leaf (.int .i64))) el) : ∃ xs : List Int, xs.length = n ∧ el = xs.map (PV.int .i64) := by
  obtain ⟨xs, e1, e2, _⟩ := kints_of .i64 h
  exact ⟨xs, e1, e2⟩
end Go.Proofs.YtplofbjppcbchaaDoor
end
