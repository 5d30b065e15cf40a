/-
  Plain data of chapter 2, more: pairs in order. No program in sight.
-/
import Derived.Test.YthiapodcippnoaaSdQ
set_option linter.unusedVariables false
set_option linter.unusedSimpArgs false
namespace Go.Proofs.Ythiapodcippnoaa
open Go.AF
def pairX (n : Nat) : List (List V) := (List.range (n * n)).map fun j => [V.p (.int .i64 ((j / n : Nat) : Int)), V.p (.int .i64 ((j % n : Nat) : Int))]
theorem pairX_len (n : Nat) : (pairX n).length = n * n := by simp [pairX]
theorem pairX_at {n k : Nat} {x : List V} (hk : k < n * n) (hx : (pairX n)[k]? = some x) : x = [V.p (.int .i64 ((k / n : Nat) : Int)), V.p (.int .i64 ((k % n : Nat) : Int))] := by
  unfold pairX at hx
  rw [List.getElem?_map, List.getElem?_range hk] at hx
  simpa using hx.symm
theorem pairX_get {n i k : Nat} (hi : i < n) (hk : k < n) : (pairX n)[i * n + k]? = some [V.p (.int .i64 ((i : Nat) : Int)), V.p (.int .i64 ((k : Nat) : Int))] := by
  have h1 : i * n + k < n * n := by
    have := Nat.mul_le_mul_right n (show i + 1 ≤ n by omega)
    rw [Nat.succ_mul] at this
    omega
  unfold pairX
  rw [List.getElem?_map, List.getElem?_range h1]
  have e1 : (i * n + k) / n = i := by
    rw [Nat.add_comm, Nat.add_mul_div_right _ _ (by omega), Nat.div_eq_of_lt hk, Nat.zero_add]
  have e2 : (i * n + k) % n = k := by
    rw [Nat.add_comm, Nat.add_mul_mod_self_right, Nat.mod_eq_of_lt hk]
  simp only [Option.map_some, e1, e2]
/-- The first of so many at which a predicate holds. -/
def fstN (p : Nat → Bool) : Nat → Option Nat
  | 0 => none
  | n + 1 => match fstN p n with
    | some j => some j
    | none => if p n then some n else none
theorem fstN_none {p : Nat → Bool} {n : Nat} (h : fstN p n = none) : fstN p (n + 1) = if p n then some n else none := by
  unfold fstN
  rw [h]
theorem fstN_at {p : Nat → Bool} {n : Nat} (h : fstN p n = none) (hp : p n = true) : fstN p (n + 1) = some n := by
  rw [fstN_none h, hp]; rfl
theorem fstN_some {p : Nat → Bool} {n j : Nat} (h : fstN p n = some j) : ∀ {m : Nat}, n ≤ m → fstN p m = some j := by
  intro m hm
  induction m with
  | zero => obtain rfl : n = 0 := by omega
            exact h
  | succ m ih =>
    rcases Nat.lt_or_ge n (m + 1) with h1 | h1
    · unfold fstN
      rw [ih (by omega)]
    · obtain rfl : n = m + 1 := by omega
      exact h
theorem fstN_spec {p : Nat → Bool} : ∀ {n : Nat}, (fstN p n = none ∧ ∀ j, j < n → p j = false) ∨ ∃ j, fstN p n = some j ∧ j < n ∧ p j = true ∧ ∀ i, i < j → p i = false
  | 0 => .inl ⟨rfl, fun j h => absurd h (by omega)⟩
  | n + 1 => by
    rcases fstN_spec (p := p) (n := n) with ⟨h1, h2⟩ | ⟨j, h1, h2, h3, h4⟩
    · rw [fstN_none h1]
      cases hp : p n with
      | true => exact .inr ⟨n, rfl, by omega, hp, h2⟩
      | false => exact .inl ⟨rfl, fun j hj => by rcases Nat.lt_succ_iff_lt_or_eq.1 hj with h | rfl; { exact h2 j h }; { exact hp }⟩
    · exact .inr ⟨j, fstN_some h1 (by omega), by omega, h3, h4⟩
def ordV (ls : List Lds) (nms : List Int) (gap : Int) : Bool := decide (nms.length = ls.length) && inB gap 0 200 && nms.all fun n => inB n 0 7
theorem ordV_eq (ls : List Lds) (nms : List Int) (gap : Int) : (decide ((nms.length : Int) = (ls.length : Int)) && inB gap 0 200 && !(nms.any fun n => !inB n 0 7)) = ordV ls nms gap := by
  unfold ordV
  rw [← List.all_eq_not_any_not, decide_eq_decide.2 (show (nms.length : Int) = (ls.length : Int) ↔ nms.length = ls.length by omega)]
theorem ordV_true {ls : List Lds} {nms : List Int} {gap : Int} (h : ordV ls nms gap = true) : nms.length = ls.length ∧ (0 ≤ gap ∧ gap ≤ 200) ∧ ∀ n ∈ nms, 0 ≤ n ∧ n ≤ 7 := by
  unfold ordV inB at h
  simp only [Bool.and_eq_true, decide_eq_true_eq, List.all_eq_true] at h
  exact ⟨h.1.1, h.1.2, h.2⟩
def wrongB (c : List Tnt) (ls : List Lds) (nms : List Int) (gap : Int) (i k : Nat) : Bool := decide (nt nms i < nt nms k) && decide ((blk c (ld ls i)).2 + gap > (blk c (ld ls k)).1)
def wrongJ (c : List Tnt) (ls : List Lds) (nms : List Int) (gap : Int) (j : Nat) : Bool := wrongB c ls nms gap (j / ls.length) (j % ls.length)
def ordR (c : List Tnt) (ls : List Lds) (nms : List Int) (gap : Int) : Int × Int × Int :=
  if openE c ls 10 (ordV ls nms gap) = 0 then (match fstN (wrongJ c ls nms gap) (ls.length * ls.length) with
    | some j => (((j / ls.length : Nat) : Int), ((j % ls.length : Nat) : Int), 0)
    | none => (0, 0, 4)) else (0, 0, openE c ls 10 (ordV ls nms gap))
theorem openL_zero {c : List Tnt} {ls : List Lds} {most : Int} {valid : Bool} (e : openE c ls most valid = 0) : openL c ls most valid = ls.map (toB c) := by
  unfold openL
  rw [if_pos e]
theorem toB_get (c : List Tnt) (ls : List Lds) : ∀ k (h : k < (ls.map (toB c)).length), (ls.map (toB c))[k] = toB c (ld ls k) := fun k h => by
  rw [List.getElem_map, ld_get]
end Go.Proofs.Ythiapodcippnoaa
