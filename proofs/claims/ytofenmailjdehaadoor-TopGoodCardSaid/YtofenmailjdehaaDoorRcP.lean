/-
  Plain data of chapter 11: cards; sets by bits; the lowest bit of a set. No program in sight.
-/
import Derived.Test.YtofenmailjdehaaDoorPl
import Derived.Test.YtofenmailjdehaaDoorPlB
set_option linter.unusedVariables false
set_option linter.unusedSimpArgs false
namespace Go.Proofs.YtofenmailjdehaaDoor
open Go.AF
structure Bat where
  f : Int
  s : Int
deriving DecidableEq
def Bat.cells (b : Bat) : List PV := [.int .i64 b.f, .int .i64 b.s]
def batV (l : List Bat) : PV := .is (l.flatMap Bat.cells) l.length
def bt (l : List Bat) (i : Nat) : Bat := l.getD i ⟨0, 0⟩
theorem bt_get {l : List Bat} : ∀ k (h : k < l.length), l[k] = bt l k := fun k h => by
  unfold bt
  rw [List.getD_eq_getElem?_getD, List.getElem?_eq_getElem h]; rfl
def bigN : Nat := 9223372036854775807
def inB (n lo hi : Int) : Bool := decide (lo ≤ n) && decide (n ≤ hi)
def i1 (n : Int) : List PV := [.int .i64 n]
def u1 (n : Nat) : List PV := [.int .u32 (n : Int)]
def nt (l : List Int) (i : Nat) : Int := l.getD i 0
theorem nt_get {l : List Int} : ∀ k (h : k < l.length), l[k] = nt l k := fun k h => by
  unfold nt
  rw [List.getD_eq_getElem?_getD, List.getElem?_eq_getElem h]; rfl
/-! ### The lowest bit -/
theorem low_of : ∀ n : Nat, n ≠ 0 → ∃ k m, n = 2 ^ k * (2 * m + 1) := by
  intro n
  induction n using Nat.strongRecOn with
  | ind n ih =>
    intro h
    rcases Nat.mod_two_eq_zero_or_one n with h1 | h1
    · obtain ⟨k, m, e⟩ := ih (n / 2) (by omega) (by omega)
      refine ⟨k + 1, m, ?_⟩
      have : n = 2 * (n / 2) := by omega
      rw [Nat.pow_succ, Nat.mul_comm (2 ^ k) 2, Nat.mul_assoc, ← e]
      exact this
    · exact ⟨0, n / 2, by omega⟩
theorem odd_bit (m j : Nat) : (2 * m + 1).testBit j = if j = 0 then true else m.testBit (j - 1) := by
  cases j with
  | zero => simp [Nat.testBit_zero]
  | succ j => rw [Nat.testBit_succ, show (2 * m + 1) / 2 = m by omega, if_neg (by omega), Nat.add_sub_cancel]
theorem even_bit (m j : Nat) : (2 * m).testBit j = if j = 0 then false else m.testBit (j - 1) := by
  cases j with
  | zero => simp [Nat.testBit_zero]
  | succ j => rw [Nat.testBit_succ, show 2 * m / 2 = m by omega, if_neg (by omega), Nat.add_sub_cancel]
theorem low_bit (k m i : Nat) : (2 ^ k * (2 * m + 1)).testBit i = (decide (k ≤ i) && if i = k then true else m.testBit (i - k - 1)) := by
  rw [Nat.testBit_two_pow_mul, odd_bit]
  by_cases h : k ≤ i
  · by_cases h2 : i = k
    · subst h2; simp
    · rw [if_neg (by omega), if_neg h2]
  · simp [h]
theorem pred_bit (k m i : Nat) : (2 ^ k * (2 * m + 1) - 1).testBit i = if i < k then true else if i = k then false else m.testBit (i - k - 1) := by
  have hp := Nat.two_pow_pos k
  have e : 2 ^ k * (2 * m + 1) - 1 = 2 ^ k * (2 * m) + (2 ^ k - 1) := by rw [Nat.mul_add, Nat.mul_one]; omega
  rw [e, Nat.testBit_two_pow_mul_add _ (by omega)]
  split
  · rename_i h
    rw [Nat.testBit_two_pow_sub_one]; simp [h]
  · rename_i h
    rw [even_bit]
    by_cases h2 : i = k
    · rw [if_pos (by omega), if_pos h2]
    · rw [if_neg (by omega), if_neg h2]
theorem low_clear (k m : Nat) : 2 ^ k * (2 * m + 1) &&& (2 ^ k * (2 * m + 1) - 1) = 2 ^ (k + 1) * m := by
  apply Nat.eq_of_testBit_eq
  intro i
  rw [Nat.testBit_and, low_bit, pred_bit, Nat.testBit_two_pow_mul]
  by_cases h : i < k
  · simp [show ¬ k ≤ i by omega, show ¬ k + 1 ≤ i by omega]
  · by_cases h2 : i = k
    · subst h2; simp [show ¬ i + 1 ≤ i by omega]
    · simp [h, h2, show k ≤ i by omega, show k + 1 ≤ i by omega, Nat.sub_sub]
theorem low_only (k m : Nat) (h : 2 ^ k * (2 * m + 1) < 2 ^ 32) : 2 ^ k * (2 * m + 1) &&& (2 ^ 32 - 2 ^ k * (2 * m + 1)) = 2 ^ k := by
  have hp := Nat.two_pow_pos k
  have h1 : 1 ≤ 2 ^ k * (2 * m + 1) := Nat.mul_pos hp (by omega)
  have hk : k < 32 := by
    rcases Nat.lt_or_ge k 32 with h2 | h2
    · exact h2
    · have h3 := Nat.pow_le_pow_right (show 0 < 2 by omega) h2
      have h4 : 2 ^ k * 1 ≤ 2 ^ k * (2 * m + 1) := Nat.mul_le_mul_left _ (by omega)
      omega
  apply Nat.eq_of_testBit_eq
  intro i
  have e : 2 ^ 32 - 2 ^ k * (2 * m + 1) = 2 ^ 32 - ((2 ^ k * (2 * m + 1) - 1) + 1) := by omega
  rw [e, Nat.testBit_and, Nat.testBit_two_pow_sub_succ (by omega), low_bit, pred_bit, Nat.testBit_two_pow]
  by_cases h2 : i < k
  · simp [show ¬ k ≤ i by omega, show ¬ k = i by omega]
  · by_cases h3 : i = k
    · subst h3; simp [hk]
    · simp [h2, h3, show ¬ k = i by omega]
      intro _ h4 _
      exact h4
theorem low_lt {k m : Nat} (h : 2 ^ k * (2 * m + 1) < 2 ^ 32) : k < 32 := by
  rcases Nat.lt_or_ge k 32 with h2 | h2
  · exact h2
  · have h3 := Nat.pow_le_pow_right (show 0 < 2 by omega) h2
    have h4 : 2 ^ k * 1 ≤ 2 ^ k * (2 * m + 1) := Nat.mul_le_mul_left _ (by omega)
    omega
/-- The table of the lowest bits. -/
def tabL : List Int := [0, 1, 28, 2, 29, 14, 24, 3, 30, 22, 20, 15, 25, 17, 4, 8, 31, 27, 13, 23, 21, 19, 16, 7, 26, 12, 18, 6, 11, 5, 10, 9]
theorem tab_at : ∀ k : Nat, k < 32 → tabL[2 ^ k * 125613361 % 4294967296 / 2 ^ 27]? = some (k : Int) := by decide
/-! ### All bits of a set, one after the other -/
def hiN (n p : Nat) : Nat := n / 2 ^ p * 2 ^ p
theorem hi_bit (n p i : Nat) : (hiN n p).testBit i = (decide (p ≤ i) && n.testBit i) := by
  unfold hiN
  rw [Nat.mul_comm, Nat.testBit_two_pow_mul, Nat.testBit_div_two_pow]
  by_cases h : p ≤ i
  · simp [h]
  · simp [h]
def bitsN (n p : Nat) : List Nat := (List.range p).filter fun i => n.testBit i
theorem bitsN_succ (n p : Nat) : bitsN n (p + 1) = if n.testBit p then bitsN n p ++ [p] else bitsN n p := by
  unfold bitsN
  rw [List.range_succ, List.filter_append]
  cases h : n.testBit p <;> simp [h]
theorem bitsN_skip {n p : Nat} : ∀ {k : Nat}, p ≤ k → (∀ i, p ≤ i → i < k → n.testBit i = false) → bitsN n k = bitsN n p := by
  intro k
  induction k with
  | zero => intro h _; obtain rfl : p = 0 := by omega
            rfl
  | succ k ih =>
    intro h h2
    rcases Nat.lt_or_ge p (k + 1) with h1 | h1
    · rw [bitsN_succ, h2 k (by omega) (by omega)]
      exact ih (by omega) fun i a b => h2 i a (by omega)
    · obtain rfl : p = k + 1 := by omega
      rfl
/-- What is left is not empty: its lowest bit is the next one. -/
theorem hi_next {n p : Nat} (hn : n < 2 ^ 32) (hp : p ≤ 32) (h : hiN n p ≠ 0) : ∃ k, p ≤ k ∧ k < 32 ∧ hiN n p &&& (2 ^ 32 - hiN n p) = 2 ^ k ∧ hiN n p &&& (hiN n p - 1) = hiN n (k + 1) ∧ bitsN n (k + 1) = bitsN n p ++ [k] := by
  obtain ⟨k, m, e⟩ := low_of _ h
  have hlt : hiN n p < 2 ^ 32 := Nat.lt_of_le_of_lt (Nat.div_mul_le_self _ _) hn
  have hk := low_lt (e ▸ hlt)
  have hb : ∀ i, (decide (p ≤ i) && n.testBit i) = (decide (k ≤ i) && if i = k then true else m.testBit (i - k - 1)) := fun i => by rw [← hi_bit, e, low_bit]
  have hpk : p ≤ k ∧ n.testBit k = true := by
    have := hb k
    simp at this
    exact this
  have hlow : ∀ i, p ≤ i → i < k → n.testBit i = false := fun i h1 h2 => by
    have := hb i
    simp [h1, show ¬ k ≤ i by omega] at this
    exact this
  refine ⟨k, hpk.1, hk, by rw [e]; exact low_only k m (e ▸ hlt), ?_, ?_⟩
  · rw [e, low_clear]
    apply Nat.eq_of_testBit_eq
    intro i
    rw [hi_bit, Nat.testBit_two_pow_mul]
    by_cases h1 : k + 1 ≤ i
    · have := hb i
      simp [show p ≤ i by omega, show k ≤ i by omega, show ¬ i = k by omega] at this
      simp [h1, this, Nat.sub_sub]
    · simp [h1]
  · rw [bitsN_succ, hpk.2, if_pos rfl, bitsN_skip hpk.1 hlow]
theorem hi_done {n p : Nat} (hp : p ≤ 32) (h : hiN n p = 0) : bitsN n 32 = bitsN n p := by
  refine bitsN_skip hp fun i h1 h2 => ?_
  have := hi_bit n p i
  rw [h] at this
  simp [h1] at this
  exact this
theorem hi_zero (n : Nat) : hiN n 0 = n := by simp [hiN]
theorem hi_le (n p : Nat) : hiN n p ≤ n := Nat.div_mul_le_self _ _
theorem bitsN_pre (n : Nat) {p q : Nat} (h : p ≤ q) : bitsN n p <+: bitsN n q := by
  induction q with
  | zero => obtain rfl : p = 0 := by omega
            exact List.prefix_refl _
  | succ q ih =>
    rcases Nat.lt_or_ge p (q + 1) with h1 | h1
    · refine (ih (by omega)).trans ?_
      rw [bitsN_succ]
      split
      · exact List.prefix_append _ _
      · exact List.prefix_refl _
    · obtain rfl : p = q + 1 := by omega
      exact List.prefix_refl _
theorem bitsN_at {n p k : Nat} (hk : k < 32) (h : bitsN n (k + 1) = bitsN n p ++ [k]) : (bitsN n 32)[(bitsN n p).length]? = some k := by
  obtain ⟨t, ht⟩ := bitsN_pre n (show k + 1 ≤ 32 by omega)
  rw [← ht, h, List.append_assoc, List.getElem?_append_right (Nat.le_refl _), Nat.sub_self]
  rfl
theorem bits_mem {n p i : Nat} : i ∈ bitsN n p ↔ i < p ∧ n.testBit i = true := by
  unfold bitsN
  rw [List.mem_filter, List.mem_range]
theorem bitsN_take {n p : Nat} : p ≤ 32 → (bitsN n p).length ≤ 32 := fun h => by
  unfold bitsN
  exact Nat.le_trans (List.length_filter_le _ _) (by rw [List.length_range]; exact h)
def bitsX (n : Nat) : List (List V) := (bitsN n 32).map fun k => [V.p (.int .i64 ((k : Nat) : Int))]
theorem bitsX_len (n : Nat) : (bitsX n).length = (bitsN n 32).length := by simp [bitsX]
theorem bitsX_at {n p k : Nat} (hk : k < 32) (h : bitsN n (k + 1) = bitsN n p ++ [k]) : (bitsX n)[(bitsN n p).length]? = some [V.p (.int .i64 ((k : Nat) : Int))] := by
  unfold bitsX
  rw [List.getElem?_map, bitsN_at hk h]; rfl
theorem u32wrap (n : Int) : IntKind.u32.wrap n = n % 4294967296 := by simp [IntKind.wrap, IntKind.bits, IntKind.signed]
theorem u32neg {n : Nat} (h : 0 < n) (h2 : n < 2 ^ 32) : IntKind.u32.wrap (0 - (n : Int)) = ((2 ^ 32 - n : Nat) : Int) := by
  rw [u32wrap]
  omega
theorem u32mul (k : Nat) : IntKind.u32.wrap (((2 ^ k : Nat) : Int) * 125613361) = ((2 ^ k * 125613361 % 4294967296 : Nat) : Int) := by
  rw [u32wrap]
  omega
/-- All that is in one of several sets. -/
def orL (l : List Nat) : Nat := l.foldl (· ||| ·) 0
theorem orL_take {l : List Nat} {k : Nat} (h : k < l.length) : orL (l.take (k + 1)) = orL (l.take k) ||| l[k] := by
  unfold orL
  rw [List.take_succ_eq_append_getElem h, List.foldl_append]; rfl
theorem orL_lt {l : List Nat} (h : ∀ x ∈ l, x < 2 ^ 32) : orL l < 2 ^ 32 := by
  unfold orL
  have : ∀ (l : List Nat) (a : Nat), a < 2 ^ 32 → (∀ x ∈ l, x < 2 ^ 32) → l.foldl (· ||| ·) a < 2 ^ 32 := fun l => by
    induction l with
    | nil => intro a h _; exact h
    | cons x l ih => intro a h h2; exact ih _ (Nat.or_lt_two_pow h (h2 x (by simp))) fun y hy => h2 y (by simp [hy])
  exact this l 0 (by decide) h
theorem or2 (a b : Nat) : orL [a, b] = a ||| b := by unfold orL; simp
def ut (l : List Nat) (i : Nat) : Nat := l.getD i 0
theorem ut_get {l : List Nat} : ∀ k (h : k < l.length), l[k] = ut l k := fun k h => by
  unfold ut
  rw [List.getD_eq_getElem?_getD, List.getElem?_eq_getElem h]; rfl
theorem ut_mem {l : List Nat} {i : Nat} (h : i < l.length) : ut l i ∈ l := by rw [← ut_get i h]; exact List.getElem_mem _
/-! ### What is valid -/
def pw (n : Nat) : Int := ((2 ^ n : Nat) : Int)
theorem pw_B {n m : Nat} (h : n ≤ m) : 1 ≤ pw n ∧ pw n ≤ pw m := by
  unfold pw
  have h1 := Nat.two_pow_pos n
  have h2 := Nat.pow_le_pow_right (show 0 < 2 by omega) h
  omega
theorem pw24 {n : Nat} (h : n ≤ 24) : 1 ≤ pw n ∧ pw n ≤ 16777216 := pw_B h
theorem pw62 {n : Nat} (h : n ≤ 62) : 1 ≤ pw n ∧ pw n ≤ 4611686018427387904 := pw_B h
theorem pw_succ (n : Nat) : pw (n + 1) = 2 * pw n := by unfold pw; rw [Nat.pow_succ]; push_cast; omega
def crdO (l : List Bat) (j : Nat) : Prop := j < 24 ∧ (0 ≤ (bt l j).f ∧ (bt l j).f ≤ pw j - 1) ∧ 0 ≤ (bt l j).s ∧ (bt l j).s ≤ 1048576
instance (l : List Bat) (j : Nat) : Decidable (crdO l j) := by unfold crdO; infer_instance
def crdOk (l : List Bat) : Prop := ∀ j, j < l.length → crdO l j
instance (l : List Bat) : Decidable (crdOk l) := by unfold crdOk; infer_instance
theorem crd24 {l : List Bat} (h : crdOk l) : l.length ≤ 24 := by
  rcases Nat.lt_or_ge 24 l.length with h1 | h1
  · have := (h 24 h1).1; omega
  · exact h1
def chkE (l : List Bat) (sets : List Int) : Int := if crdOk l then (if (sets.any fun n => !inB n 0 (pw l.length - 1)) = true then 2 else 0) else 1
def intsV (l : List Int) : PV := .is (l.flatMap i1) l.length
/-- The first at which a predicate holds, as an index; below 0: none. -/
def idxF {α : Type} (p : α → Bool) (xs : List α) : Int := match xs.findIdx? p with
  | some i => (i : Int)
  | none => -1
theorem idxF_at {α : Type} (p : α → Bool) (xs : List α) (i : Nat) (hi : i < xs.length) (hb : ∀ j (h : j < i), p (xs[j]'(by omega)) = false) (hp : p xs[i] = true) : idxF p xs = (i : Int) := by
  unfold idxF
  have : xs.findIdx? p = some i := by
    rw [List.findIdx?_eq_some_iff_getElem]
    exact ⟨hi, hp, fun j h => by rw [hb j h]; decide⟩
  rw [this]
theorem idxF_none {α : Type} (p : α → Bool) (xs : List α) (hb : ∀ j (h : j < xs.length), p xs[j] = false) : idxF p xs = -1 := by
  unfold idxF
  have : xs.findIdx? p = none := by
    rw [List.findIdx?_eq_none_iff]
    intro x hx
    obtain ⟨j, hj, rfl⟩ := List.getElem_of_mem hx
    exact hb j hj
  rw [this]
theorem idxF_any {α : Type} (p : α → Bool) (xs : List α) : decide (idxF p xs ≥ 0) = xs.any p := by
  unfold idxF
  cases h : xs.findIdx? p with
  | none =>
    rw [List.findIdx?_eq_none_iff] at h
    have : xs.any p = false := List.any_eq_false.2 fun x hx => by rw [h x hx]; decide
    rw [this]; rfl
  | some i =>
    obtain ⟨hi, hp, _⟩ := List.findIdx?_eq_some_iff_getElem.1 h
    have : xs.any p = true := List.any_eq_true.2 ⟨_, List.getElem_mem hi, hp⟩
    rw [this]
    exact decide_eq_true (by show (0 : Int) ≤ (i : Int); omega)
end Go.Proofs.YtofenmailjdehaaDoor
