/-
  Plain data of chapter 11: cards; sets by bits; the lowest bit of a set. No program in sight.
  Plain data of chapter 11: what a batch comes from, and what comes from it; a walk that marks what it met. No program in sight.
  Plain data of chapter 11: which batches can be to blame, what is called back, and what batches have in common. No program in sight.
-/
import Derived.Test.YtbnemnhmejmeeaaGreatDoorPm
import Derived.Test.YtbnemnhmejmeeaaGreatDoorFaD
section
set_option linter.unusedVariables false
set_option linter.unusedSimpArgs false
namespace Go.Proofs.YtbnemnhmejmeeaaGreatDoor.Rx
open Go.AF
structure Bat where
  f : Int
  s : Int
deriving DecidableEq
def Bat.cells (b : Bat) : List PV := [.int .i64 b.f, .int .i64 b.s]
def batV (l : List Bat) : PV := .is (l.flatMap Bat.cells) l.length
def bt (l : List Bat) (i : Nat) : Bat := l.getD i ⟨0, 0⟩
theorem bt_get {l : List Bat} : ∀ k (h : k < l.length), l[k] = bt l k := fun k h => by
  unfold bt
  rw [List.getD_eq_getElem?_getD, List.getElem?_eq_getElem h]; rfl
def bigN : Nat := 9223372036854775807
def inB (n lo hi : Int) : Bool := decide (lo ≤ n) && decide (n ≤ hi)
def i1 (n : Int) : List PV := [.int .i64 n]
def u1 (n : Nat) : List PV := [.int .u32 (n : Int)]
def nt (l : List Int) (i : Nat) : Int := l.getD i 0
/-! ### The lowest bit -/
theorem low_of : ∀ n : Nat, n ≠ 0 → ∃ k m, n = 2 ^ k * (2 * m + 1) := by
  intro n
  induction n using Nat.strongRecOn with
  | ind n ih =>
    intro h
    rcases Nat.mod_two_eq_zero_or_one n with h1 | h1
    · obtain ⟨k, m, e⟩ := ih (n / 2) (by omega) (by omega)
      refine ⟨k + 1, m, ?_⟩
      have : n = 2 * (n / 2) := by omega
      rw [Nat.pow_succ, Nat.mul_comm (2 ^ k) 2, Nat.mul_assoc, ← e]
      exact this
    · exact ⟨0, n / 2, by omega⟩
theorem odd_bit (m j : Nat) : (2 * m + 1).testBit j = if j = 0 then true else m.testBit (j - 1) := by
  cases j with
  | zero => simp [Nat.testBit_zero]
  | succ j => rw [Nat.testBit_succ, show (2 * m + 1) / 2 = m by omega, if_neg (by omega), Nat.add_sub_cancel]
theorem even_bit (m j : Nat) : (2 * m).testBit j = if j = 0 then false else m.testBit (j - 1) := by
  cases j with
  | zero => simp [Nat.testBit_zero]
  | succ j => rw [Nat.testBit_succ, show 2 * m / 2 = m by omega, if_neg (by omega), Nat.add_sub_cancel]
theorem low_bit (k m i : Nat) : (2 ^ k * (2 * m + 1)).testBit i = (decide (k ≤ i) && if i = k then true else m.testBit (i - k - 1)) := by
  rw [Nat.testBit_two_pow_mul, odd_bit]
  by_cases h : k ≤ i
  · by_cases h2 : i = k
    · subst h2; simp
    · rw [if_neg (by omega), if_neg h2]
  · simp [h]
theorem pred_bit (k m i : Nat) : (2 ^ k * (2 * m + 1) - 1).testBit i = if i < k then true else if i = k then false else m.testBit (i - k - 1) := by
  have hp := Nat.two_pow_pos k
  have e : 2 ^ k * (2 * m + 1) - 1 = 2 ^ k * (2 * m) + (2 ^ k - 1) := by rw [Nat.mul_add, Nat.mul_one]; omega
  rw [e, Nat.testBit_two_pow_mul_add _ (by omega)]
  split
  · rename_i h
    rw [Nat.testBit_two_pow_sub_one]; simp [h]
  · rename_i h
    rw [even_bit]
    by_cases h2 : i = k
    · rw [if_pos (by omega), if_pos h2]
    · rw [if_neg (by omega), if_neg h2]
theorem low_clear (k m : Nat) : 2 ^ k * (2 * m + 1) &&& (2 ^ k * (2 * m + 1) - 1) = 2 ^ (k + 1) * m := by
  apply Nat.eq_of_testBit_eq
  intro i
  rw [Nat.testBit_and, low_bit, pred_bit, Nat.testBit_two_pow_mul]
  by_cases h : i < k
  · simp [show ¬ k ≤ i by omega, show ¬ k + 1 ≤ i by omega]
  · by_cases h2 : i = k
    · subst h2; simp [show ¬ i + 1 ≤ i by omega]
    · simp [h, h2, show k ≤ i by omega, show k + 1 ≤ i by omega, Nat.sub_sub]
theorem low_only (k m : Nat) (h : 2 ^ k * (2 * m + 1) < 2 ^ 32) : 2 ^ k * (2 * m + 1) &&& (2 ^ 32 - 2 ^ k * (2 * m + 1)) = 2 ^ k := by
  have hp := Nat.two_pow_pos k
  have h1 : 1 ≤ 2 ^ k * (2 * m + 1) := Nat.mul_pos hp (by omega)
  have hk : k < 32 := by
    rcases Nat.lt_or_ge k 32 with h2 | h2
    · exact h2
    · have h3 := Nat.pow_le_pow_right (show 0 < 2 by omega) h2
      have h4 : 2 ^ k * 1 ≤ 2 ^ k * (2 * m + 1) := Nat.mul_le_mul_left _ (by omega)
      omega
  apply Nat.eq_of_testBit_eq
  intro i
  have e : 2 ^ 32 - 2 ^ k * (2 * m + 1) = 2 ^ 32 - ((2 ^ k * (2 * m + 1) - 1) + 1) := by omega
  rw [e, Nat.testBit_and, Nat.testBit_two_pow_sub_succ (by omega), low_bit, pred_bit, Nat.testBit_two_pow]
  by_cases h2 : i < k
  · simp [show ¬ k ≤ i by omega, show ¬ k = i by omega]
  · by_cases h3 : i = k
    · subst h3; simp [hk]
    · simp [h2, h3, show ¬ k = i by omega]
      intro _ h4 _
      exact h4
theorem low_lt {k m : Nat} (h : 2 ^ k * (2 * m + 1) < 2 ^ 32) : k < 32 := by
  rcases Nat.lt_or_ge k 32 with h2 | h2
  · exact h2
  · have h3 := Nat.pow_le_pow_right (show 0 < 2 by omega) h2
    have h4 : 2 ^ k * 1 ≤ 2 ^ k * (2 * m + 1) := Nat.mul_le_mul_left _ (by omega)
    omega
/-- The table of the lowest bits. -/
def tabL : List Int := [0, 1, 28, 2, 29, 14, 24, 3, 30, 22, 20, 15, 25, 17, 4, 8, 31, 27, 13, 23, 21, 19, 16, 7, 26, 12, 18, 6, 11, 5, 10, 9]
theorem tab_at : ∀ k : Nat, k < 32 → tabL[2 ^ k * 125613361 % 4294967296 / 2 ^ 27]? = some (k : Int) := by decide
/-! ### All bits of a set, one after the other -/
def hiN (n p : Nat) : Nat := n / 2 ^ p * 2 ^ p
theorem hi_bit (n p i : Nat) : (hiN n p).testBit i = (decide (p ≤ i) && n.testBit i) := by
  unfold hiN
  rw [Nat.mul_comm, Nat.testBit_two_pow_mul, Nat.testBit_div_two_pow]
  by_cases h : p ≤ i
  · simp [h]
  · simp [h]
def bitsN (n p : Nat) : List Nat := (List.range p).filter fun i => n.testBit i
theorem bitsN_succ (n p : Nat) : bitsN n (p + 1) = if n.testBit p then bitsN n p ++ [p] else bitsN n p := by
  unfold bitsN
  rw [List.range_succ, List.filter_append]
  cases h : n.testBit p <;> simp [h]
theorem bitsN_skip {n p : Nat} : ∀ {k : Nat}, p ≤ k → (∀ i, p ≤ i → i < k → n.testBit i = false) → bitsN n k = bitsN n p := by
  intro k
  induction k with
  | zero => intro h _; obtain rfl : p = 0 := by omega
            rfl
  | succ k ih =>
    intro h h2
    rcases Nat.lt_or_ge p (k + 1) with h1 | h1
    · rw [bitsN_succ, h2 k (by omega) (by omega)]
      exact ih (by omega) fun i a b => h2 i a (by omega)
    · obtain rfl : p = k + 1 := by omega
      rfl
/-- What is left is not empty: its lowest bit is the next one. -/
theorem hi_next {n p : Nat} (hn : n < 2 ^ 32) (hp : p ≤ 32) (h : hiN n p ≠ 0) : ∃ k, p ≤ k ∧ k < 32 ∧ hiN n p &&& (2 ^ 32 - hiN n p) = 2 ^ k ∧ hiN n p &&& (hiN n p - 1) = hiN n (k + 1) ∧ bitsN n (k + 1) = bitsN n p ++ [k] := by
  obtain ⟨k, m, e⟩ := low_of _ h
  have hlt : hiN n p < 2 ^ 32 := Nat.lt_of_le_of_lt (Nat.div_mul_le_self _ _) hn
  have hk := low_lt (e ▸ hlt)
  have hb : ∀ i, (decide (p ≤ i) && n.testBit i) = (decide (k ≤ i) && if i = k then true else m.testBit (i - k - 1)) := fun i => by rw [← hi_bit, e, low_bit]
  have hpk : p ≤ k ∧ n.testBit k = true := by
    have := hb k
    simp at this
    exact this
  have hlow : ∀ i, p ≤ i → i < k → n.testBit i = false := fun i h1 h2 => by
    have := hb i
    simp [h1, show ¬ k ≤ i by omega] at this
    exact this
  refine ⟨k, hpk.1, hk, by rw [e]; exact low_only k m (e ▸ hlt), ?_, ?_⟩
  · rw [e, low_clear]
    apply Nat.eq_of_testBit_eq
    intro i
    rw [hi_bit, Nat.testBit_two_pow_mul]
    by_cases h1 : k + 1 ≤ i
    · have := hb i
      simp [show p ≤ i by omega, show k ≤ i by omega, show ¬ i = k by omega] at this
      simp [h1, this, Nat.sub_sub]
    · simp [h1]
  · rw [bitsN_succ, hpk.2, if_pos rfl, bitsN_skip hpk.1 hlow]
theorem hi_done {n p : Nat} (hp : p ≤ 32) (h : hiN n p = 0) : bitsN n 32 = bitsN n p := by
  refine bitsN_skip hp fun i h1 h2 => ?_
  have := hi_bit n p i
  rw [h] at this
  simp [h1] at this
  exact this
theorem hi_zero (n : Nat) : hiN n 0 = n := by simp [hiN]
theorem hi_le (n p : Nat) : hiN n p ≤ n := Nat.div_mul_le_self _ _
theorem bitsN_pre (n : Nat) {p q : Nat} (h : p ≤ q) : bitsN n p <+: bitsN n q := by
  induction q with
  | zero => obtain rfl : p = 0 := by omega
            exact List.prefix_refl _
  | succ q ih =>
    rcases Nat.lt_or_ge p (q + 1) with h1 | h1
    · refine (ih (by omega)).trans ?_
      rw [bitsN_succ]
      split
      · exact List.prefix_append _ _
      · exact List.prefix_refl _
    · obtain rfl : p = q + 1 := by omega
      exact List.prefix_refl _
theorem bitsN_at {n p k : Nat} (hk : k < 32) (h : bitsN n (k + 1) = bitsN n p ++ [k]) : (bitsN n 32)[(bitsN n p).length]? = some k := by
  obtain ⟨t, ht⟩ := bitsN_pre n (show k + 1 ≤ 32 by omega)
  rw [← ht, h, List.append_assoc, List.getElem?_append_right (Nat.le_refl _), Nat.sub_self]
  rfl
theorem bits_mem {n p i : Nat} : i ∈ bitsN n p ↔ i < p ∧ n.testBit i = true := by
  unfold bitsN
  rw [List.mem_filter, List.mem_range]
def bitsX (n : Nat) : List (List V) := (bitsN n 32).map fun k => [V.p (.int .i64 ((k : Nat) : Int))]
theorem bitsX_len (n : Nat) : (bitsX n).length = (bitsN n 32).length := by simp [bitsX]
theorem bitsX_at {n p k : Nat} (hk : k < 32) (h : bitsN n (k + 1) = bitsN n p ++ [k]) : (bitsX n)[(bitsN n p).length]? = some [V.p (.int .i64 ((k : Nat) : Int))] := by
  unfold bitsX
  rw [List.getElem?_map, bitsN_at hk h]; rfl
theorem u32wrap (n : Int) : IntKind.u32.wrap n = n % 4294967296 := by simp [IntKind.wrap, IntKind.bits, IntKind.signed]
theorem u32neg {n : Nat} (h : 0 < n) (h2 : n < 2 ^ 32) : IntKind.u32.wrap (0 - (n : Int)) = ((2 ^ 32 - n : Nat) : Int) := by
  rw [u32wrap]
  omega
theorem u32mul (k : Nat) : IntKind.u32.wrap (((2 ^ k : Nat) : Int) * 125613361) = ((2 ^ k * 125613361 % 4294967296 : Nat) : Int) := by
  rw [u32wrap]
  omega
/-- All that is in one of several sets. -/
def orL (l : List Nat) : Nat := l.foldl (· ||| ·) 0
theorem orL_take {l : List Nat} {k : Nat} (h : k < l.length) : orL (l.take (k + 1)) = orL (l.take k) ||| l[k] := by
  unfold orL
  rw [List.take_succ_eq_append_getElem h, List.foldl_append]; rfl
theorem orL_lt {l : List Nat} (h : ∀ x ∈ l, x < 2 ^ 32) : orL l < 2 ^ 32 := by
  unfold orL
  have : ∀ (l : List Nat) (a : Nat), a < 2 ^ 32 → (∀ x ∈ l, x < 2 ^ 32) → l.foldl (· ||| ·) a < 2 ^ 32 := fun l => by
    induction l with
    | nil => intro a h _; exact h
    | cons x l ih => intro a h h2; exact ih _ (Nat.or_lt_two_pow h (h2 x (by simp))) fun y hy => h2 y (by simp [hy])
  exact this l 0 (by decide) h
theorem or2 (a b : Nat) : orL [a, b] = a ||| b := by unfold orL; simp
def ut (l : List Nat) (i : Nat) : Nat := l.getD i 0
theorem ut_get {l : List Nat} : ∀ k (h : k < l.length), l[k] = ut l k := fun k h => by
  unfold ut
  rw [List.getD_eq_getElem?_getD, List.getElem?_eq_getElem h]; rfl
theorem ut_mem {l : List Nat} {i : Nat} (h : i < l.length) : ut l i ∈ l := by rw [← ut_get i h]; exact List.getElem_mem _
/-! ### What is valid -/
def pw (n : Nat) : Int := ((2 ^ n : Nat) : Int)
theorem pw_B {n m : Nat} (h : n ≤ m) : 1 ≤ pw n ∧ pw n ≤ pw m := by
  unfold pw
  have h1 := Nat.two_pow_pos n
  have h2 := Nat.pow_le_pow_right (show 0 < 2 by omega) h
  omega
theorem pw24 {n : Nat} (h : n ≤ 24) : 1 ≤ pw n ∧ pw n ≤ 16777216 := pw_B h
def crdO (l : List Bat) (j : Nat) : Prop := j < 24 ∧ (0 ≤ (bt l j).f ∧ (bt l j).f ≤ pw j - 1) ∧ 0 ≤ (bt l j).s ∧ (bt l j).s ≤ 1048576
instance (l : List Bat) (j : Nat) : Decidable (crdO l j) := by unfold crdO; infer_instance
def crdOk (l : List Bat) : Prop := ∀ j, j < l.length → crdO l j
instance (l : List Bat) : Decidable (crdOk l) := by unfold crdOk; infer_instance
theorem crd24 {l : List Bat} (h : crdOk l) : l.length ≤ 24 := by
  rcases Nat.lt_or_ge 24 l.length with h1 | h1
  · have := (h 24 h1).1; omega
  · exact h1
def chkE (l : List Bat) (sets : List Int) : Int := if crdOk l then (if (sets.any fun n => !inB n 0 (pw l.length - 1)) = true then 2 else 0) else 1
def intsV (l : List Int) : PV := .is (l.flatMap i1) l.length
/-- The first at which a predicate holds, as an index; below 0: none. -/
def idxF {α : Type} (p : α → Bool) (xs : List α) : Int := match xs.findIdx? p with
  | some i => (i : Int)
  | none => -1
theorem idxF_at {α : Type} (p : α → Bool) (xs : List α) (i : Nat) (hi : i < xs.length) (hb : ∀ j (h : j < i), p (xs[j]'(by omega)) = false) (hp : p xs[i] = true) : idxF p xs = (i : Int) := by
  unfold idxF
  have : xs.findIdx? p = some i := by
    rw [List.findIdx?_eq_some_iff_getElem]
    exact ⟨hi, hp, fun j h => by rw [hb j h]; decide⟩
  rw [this]
theorem idxF_none {α : Type} (p : α → Bool) (xs : List α) (hb : ∀ j (h : j < xs.length), p xs[j] = false) : idxF p xs = -1 := by
  unfold idxF
  have : xs.findIdx? p = none := by
    rw [List.findIdx?_eq_none_iff]
    intro x hx
    obtain ⟨j, hj, rfl⟩ := List.getElem_of_mem hx
    exact hb j hj
  rw [this]
theorem idxF_any {α : Type} (p : α → Bool) (xs : List α) : decide (idxF p xs ≥ 0) = xs.any p := by
  unfold idxF
  cases h : xs.findIdx? p with
  | none =>
    rw [List.findIdx?_eq_none_iff] at h
    have : xs.any p = false := List.any_eq_false.2 fun x hx => by rw [h x hx]; decide
    rw [this]; rfl
  | some i =>
    obtain ⟨hi, hp, _⟩ := List.findIdx?_eq_some_iff_getElem.1 h
    have : xs.any p = true := List.any_eq_true.2 ⟨_, List.getElem_mem hi, hp⟩
    rw [this]
    exact decide_eq_true (by show (0 : Int) ≤ (i : Int); omega)
end Go.Proofs.YtbnemnhmejmeeaaGreatDoor.Rx
end

section
set_option linter.unusedVariables false
set_option linter.unusedSimpArgs false
namespace Go.Proofs.YtbnemnhmejmeeaaGreatDoor.Rx
open Go.AF
def frN (l : List Bat) (i : Nat) : Nat := (bt l i).f.toNat
/-! ### Numbers whose bits are given -/
def setOf (p : Nat → Bool) : Nat → Nat
  | 0 => 0
  | n + 1 => if p n then setOf p n + 2 ^ n else setOf p n
/-! ### What a batch comes from -/
/-- One more: itself, and all that those come from of which it was made. -/
def stepB (l : List Bat) (t : List Nat) (n : Nat) : Nat → Nat
  | 0 => 2 ^ n
  | k + 1 => if (frN l n).testBit k then stepB l t n k ||| ut t k else stepB l t n k
def backs (l : List Bat) : Nat → List Nat
  | 0 => []
  | n + 1 => backs l n ++ [stepB l (backs l n) n n]
theorem backs_len (l : List Bat) : ∀ n, (backs l n).length = n
  | 0 => rfl
  | n + 1 => by rw [backs, List.length_append, backs_len l n]; rfl
def backN (l : List Bat) (i : Nat) : Nat := ut (backs l (i + 1)) i
theorem backs_at (l : List Bat) {i : Nat} : ∀ {n : Nat}, i < n → ut (backs l n) i = backN l i := by
  intro n
  induction n with
  | zero => intro h; omega
  | succ n ih =>
    intro h
    rcases Nat.lt_or_ge i n with h1 | h1
    · rw [← ih h1]
      unfold ut
      rw [backs, List.getD_eq_getElem?_getD, List.getD_eq_getElem?_getD, List.getElem?_append_left (by rw [backs_len]; exact h1)]
    · obtain rfl : i = n := by omega
      rfl
theorem backN_step (l : List Bat) (i : Nat) : backN l i = stepB l (backs l i) i i := by
  unfold backN ut
  rw [backs, List.getD_eq_getElem?_getD, List.getElem?_append_right (by rw [backs_len]; exact Nat.le_refl _), backs_len, Nat.sub_self]
  rfl
theorem stepB_bit (l : List Bat) (i x : Nat) : ∀ n, n ≤ i → ((stepB l (backs l i) i n).testBit x = true ↔ x = i ∨ ∃ k, k < n ∧ (frN l i).testBit k = true ∧ (backN l k).testBit x = true)
  | 0, _ => by
    show (2 ^ i).testBit x = true ↔ _
    rw [Nat.testBit_two_pow, decide_eq_true_eq]
    constructor
    · intro h; exact .inl h.symm
    · rintro (h | ⟨k, h, _⟩)
      · exact h.symm
      · omega
  | n + 1, hn => by
    have ih := stepB_bit l i x n (by omega)
    unfold stepB
    split
    · rename_i hb
      rw [Nat.testBit_or, Bool.or_eq_true, ih, backs_at l (show n < i by omega)]
      constructor
      · rintro ((h | ⟨k, h1, h2⟩) | h)
        · exact .inl h
        · exact .inr ⟨k, by omega, h2⟩
        · exact .inr ⟨n, by omega, hb, h⟩
      · rintro (h | ⟨k, h1, h2, h3⟩)
        · exact .inl (.inl h)
        · rcases Nat.lt_succ_iff_lt_or_eq.1 h1 with h4 | rfl
          · exact .inl (.inr ⟨k, h4, h2, h3⟩)
          · exact .inr h3
    · rename_i hb
      rw [ih]
      constructor
      · rintro (h | ⟨k, h1, h2⟩)
        · exact .inl h
        · exact .inr ⟨k, by omega, h2⟩
      · rintro (h | ⟨k, h1, h2, h3⟩)
        · exact .inl h
        · rcases Nat.lt_succ_iff_lt_or_eq.1 h1 with h4 | rfl
          · exact .inr ⟨k, h4, h2, h3⟩
          · exact absurd h2 hb
/-- What a batch comes from: itself, and what those come from of which it was made. -/
theorem back_iff (l : List Bat) (i x : Nat) : (backN l i).testBit x = true ↔ x = i ∨ ∃ k, k < i ∧ (frN l i).testBit k = true ∧ (backN l k).testBit x = true := by
  rw [backN_step]
  exact stepB_bit l i x i (Nat.le_refl _)
theorem back_le (l : List Bat) : ∀ {i x : Nat}, (backN l i).testBit x = true → x ≤ i := by
  intro i
  induction i using Nat.strongRecOn with
  | ind i ih =>
    intro x h
    rcases (back_iff l i x).1 h with rfl | ⟨k, h1, _, h3⟩
    · exact Nat.le_refl _
    · have := ih k h1 h3; omega
theorem back_lt (l : List Bat) (i : Nat) : backN l i < 2 ^ (i + 1) := by
  apply Nat.lt_pow_two_of_testBit
  intro x hx
  cases h : (backN l i).testBit x with
  | false => rfl
  | true => have := back_le l h; omega
/-- The cards are valid: each was made of earlier ones. -/
theorem fr_lt {l : List Bat} (h : crdOk l) {i k : Nat} (hi : i < l.length) (hk : (frN l i).testBit k = true) : k < i := by
  have h1 := (h i hi).2.1
  rcases Nat.lt_or_ge k i with h2 | h2
  · exact h2
  · exfalso
    have h3 : frN l i < 2 ^ i := by unfold frN; unfold pw at h1; omega
    rw [Nat.testBit_lt_two_pow (Nat.lt_of_lt_of_le h3 (Nat.pow_le_pow_right (by omega) h2))] at hk
    cases hk
/-! ### What comes from a batch -/
def aheadN (l : List Bat) (b : Nat) : Nat := setOf (fun i => (backN l i).testBit b) l.length
/-- What was made of a batch. -/
def nextN (l : List Bat) (b : Nat) : Nat := setOf (fun i => (frN l i).testBit b) l.length
/-! ### A way, and all that it leads to -/
structure Way (N : Nat) (nx R rk : Nat → Nat) : Prop where
  lt : ∀ b, b < N → nx b < 2 ^ N
  rlt : ∀ b, b < N → R b < 2 ^ N
  iff : ∀ b, b < N → ∀ x, (R b).testBit x = true ↔ x = b ∨ ∃ k, (nx b).testBit k = true ∧ (R k).testBit x = true
  rk : ∀ b, b < N → ∀ k, (nx b).testBit k = true → rk k < rk b
  nlt : ∀ b, b < N → ∀ k, (nx b).testBit k = true → k < N
theorem Way.self {N : Nat} {nx R rk : Nat → Nat} (w : Way N nx R rk) {b : Nat} (h : b < N) : (R b).testBit b = true := (w.iff b h b).2 (.inl rfl)
theorem Way.rank {N : Nat} {nx R rk : Nat → Nat} (w : Way N nx R rk) : ∀ (m b : Nat), b < N → rk b ≤ m → ∀ x, (R b).testBit x = true → x < N ∧ (x = b ∨ rk x < rk b)
  | m, b, hb, hm, x, hx => by
    rcases (w.iff b hb x).1 hx with rfl | ⟨k, h1, h2⟩
    · exact ⟨hb, .inl rfl⟩
    · have h3 := w.rk b hb k h1
      have h4 := w.nlt b hb k h1
      match m, hm with
      | 0, hm => omega
      | m + 1, hm =>
        have := w.rank m k h4 (by omega) x h2
        refine ⟨this.1, .inr ?_⟩
        rcases this.2 with rfl | h5 <;> omega
theorem Way.trans {N : Nat} {nx R rk : Nat → Nat} (w : Way N nx R rk) : ∀ (m b : Nat), b < N → rk b ≤ m → ∀ x y, (R b).testBit x = true → (R x).testBit y = true → (R b).testBit y = true
  | m, b, hb, hm, x, y, h1, h2 => by
    rcases (w.iff b hb x).1 h1 with rfl | ⟨k, h3, h4⟩
    · exact h2
    · have h5 := w.rk b hb k h3
      match m, hm with
      | 0, hm => omega
      | m + 1, hm => exact (w.iff b hb y).2 (.inr ⟨k, h3, w.trans m k (w.nlt b hb k h3) (by omega) x y h4 h2⟩)
/-- What was met already and is led to was finished. -/
def MetOk (R : Nat → Nat) (b M : Nat) : Prop := ∀ x, M.testBit x = true → (R b).testBit x = true → ∀ y, (R x).testBit y = true → M.testBit y = true
/-- What was met after so many of the next ones. -/
def metF (R : Nat → Nat) (M b : Nat) : List Nat → Nat
  | ks => ks.foldl (fun a k => a ||| R k) (M ||| 2 ^ b)
theorem metF_bit (R : Nat → Nat) (M b x : Nat) (ks : List Nat) : (metF R M b ks).testBit x = true ↔ M.testBit x = true ∨ x = b ∨ ∃ k ∈ ks, (R k).testBit x = true := by
  have : ∀ (ks : List Nat) (a : Nat), (ks.foldl (fun a k => a ||| R k) a).testBit x = true ↔ a.testBit x = true ∨ ∃ k ∈ ks, (R k).testBit x = true := fun ks => by
    induction ks with
    | nil => intro a; simp
    | cons k ks ih =>
      intro a
      rw [List.foldl_cons, ih, Nat.testBit_or, Bool.or_eq_true]
      simp only [List.mem_cons, exists_eq_or_imp, or_assoc]
  unfold metF
  rw [this, Nat.testBit_or, Bool.or_eq_true, Nat.testBit_two_pow, decide_eq_true_eq, or_assoc, eq_comm (a := b)]
theorem metF_snoc (R : Nat → Nat) (M b : Nat) (ks : List Nat) (k : Nat) : metF R M b (ks ++ [k]) = metF R M b ks ||| R k := by
  unfold metF
  rw [List.foldl_append]; rfl
/-- At the next one, what was met is still in order. -/
theorem met_next {N : Nat} {nx R rk : Nat → Nat} (w : Way N nx R rk) {b M : Nat} (hb : b < N) (h : MetOk R b M) {ks : List Nat} (hk : ∀ k ∈ ks, (nx b).testBit k = true) {k : Nat} (hkb : (nx b).testBit k = true) : MetOk R k (metF R M b ks) := by
  intro x hx hxk y hy
  rw [metF_bit] at hx ⊢
  have hxb : (R b).testBit x = true := (w.iff b hb x).2 (.inr ⟨k, hkb, hxk⟩)
  rcases hx with h1 | rfl | ⟨k2, h2, h3⟩
  · exact .inl (h x h1 hxb y hy)
  · exfalso
    have h4 := w.rk x hb k hkb
    have h5 := (w.rank (rk k) k (w.nlt x hb k hkb) (Nat.le_refl _) x hxk).2
    rcases h5 with rfl | h5
    · omega
    · omega
  · exact .inr (.inr ⟨k2, h2, w.trans (rk k2) k2 (w.nlt b hb k2 (hk k2 h2)) (Nat.le_refl _) x y h3 hy⟩)
/-- Behind the last one, all that is led to was met. -/
theorem met_all {N : Nat} {nx R rk : Nat → Nat} (w : Way N nx R rk) {b M : Nat} (hb : b < N) : metF R M b (bitsN (nx b) 32) = M ||| R b ∨ 32 < N := by
  rcases Nat.lt_or_ge 32 N with hN | hN
  · exact .inr hN
  left
  apply Nat.eq_of_testBit_eq
  intro x
  have key : (metF R M b (bitsN (nx b) 32)).testBit x = true ↔ (M ||| R b).testBit x = true := by
    rw [metF_bit, Nat.testBit_or, Bool.or_eq_true, w.iff b hb x]
    constructor
    · rintro (h | h | ⟨k, h1, h2⟩)
      · exact .inl h
      · exact .inr (.inl h)
      · exact .inr (.inr ⟨k, (bits_mem.1 h1).2, h2⟩)
    · rintro (h | h | ⟨k, h1, h2⟩)
      · exact .inl h
      · exact .inr (.inl h)
      · exact .inr (.inr ⟨k, bits_mem.2 ⟨by have := w.nlt b hb k h1; omega, h1⟩, h2⟩)
  cases h1 : (metF R M b (bitsN (nx b) 32)).testBit x with
  | true => exact (key.1 h1).symm
  | false =>
    cases h2 : (M ||| R b).testBit x with
    | false => rfl
    | true => rw [key.2 h2] at h1; cases h1
/-- It was met: nothing is new. -/
theorem met_old {N : Nat} {nx R rk : Nat → Nat} (w : Way N nx R rk) {b M : Nat} (hb : b < N) (h : MetOk R b M) (hm : M.testBit b = true) : M ||| R b = M := by
  apply Nat.eq_of_testBit_eq
  intro x
  rw [Nat.testBit_or]
  cases h1 : (R b).testBit x with
  | false => rw [Bool.or_false]
  | true => rw [h b hm (w.self hb) x h1]; rfl
/-! ### The two ways -/
theorem way_back {l : List Bat} (h : crdOk l) : Way l.length (frN l) (backN l) (fun b => b) := by
  have h24 := crd24 h
  refine ⟨fun b hb => ?_, fun b hb => ?_, fun b hb x => ?_, fun b hb k hk => fr_lt h hb hk, fun b hb k hk => by have := fr_lt h hb hk; omega⟩
  · have h1 := (h b hb).2.1
    have h2 := Nat.pow_le_pow_right (show 0 < 2 by omega) (show b ≤ l.length by omega)
    unfold frN
    unfold pw at h1
    omega
  · exact Nat.lt_of_lt_of_le (back_lt l b) (Nat.pow_le_pow_right (by omega) hb)
  · rw [back_iff]
    constructor
    · rintro (h1 | ⟨k, _, h2⟩)
      · exact .inl h1
      · exact .inr ⟨k, h2⟩
    · rintro (h1 | ⟨k, h2, h3⟩)
      · exact .inl h1
      · exact .inr ⟨k, fr_lt h hb h2, h2, h3⟩
/-! ### The way ahead, as a map -/
def ahdS (i : Nat) (ms : List (Int × Nat)) (ks : List Nat) : List (Int × Nat) := ks.foldl (fun ms k => mset ((k : Nat) : Int) (((mget ((k : Nat) : Int) ms).getD 0) ||| 2 ^ i) ms) ms
def ahdM (l : List Bat) : Nat → List (Int × Nat)
  | 0 => []
  | i + 1 => ahdS i (ahdM l i) (bitsN (frN l i) 32)
theorem bitsX_get {n k : Nat} {x : List V} (h : (bitsX n)[k]? = some x) : ∃ q, (bitsN n 32)[k]? = some q ∧ x = [V.p (.int .i64 ((q : Nat) : Int))] := by
  unfold bitsX at h
  rw [List.getElem?_map, Option.map_eq_some_iff] at h
  obtain ⟨q, h1, h2⟩ := h
  exact ⟨q, h1, h2.symm⟩
theorem take_snoc {α : Type} {l : List α} {k : Nat} {q : α} (h : l[k]? = some q) : l.take (k + 1) = l.take k ++ [q] := by
  obtain ⟨h1, h2⟩ := List.getElem?_eq_some_iff.1 h
  rw [List.take_succ_eq_append_getElem h1, h2]
def u32V (n : Nat) : PV := .int .u32 (n : Int)
def ahdV (l : List Bat) : PV := mapP (PV.int .i64) u32V (ahdM l l.length)
/-- What was met, cell by cell. -/
def metB (M : Nat) : List Bool := (List.range 24).map fun i => M.testBit i
def b1 (b : Bool) : List PV := [.bool b]
theorem metB_get {M i : Nat} (h : i < (metB M).length) : (metB M)[i] = M.testBit i := by simp [metB]
theorem metB_len (M : Nat) : (metB M).length = 24 := by simp [metB]
theorem metB_set {M b : Nat} (h : b < 24) : (metB M).set b true = metB (M ||| 2 ^ b) := by
  apply List.ext_getElem
  · simp [metB]
  · intro i h1 h2
    rw [metB_len] at h2
    rw [List.getElem_set, metB_get, metB_get, Nat.testBit_or, Nat.testBit_two_pow]
    by_cases h3 : b = i
    · subst h3; simp
    · rw [if_neg h3]
      simp [h3]
end Go.Proofs.YtbnemnhmejmeeaaGreatDoor.Rx
end

section
set_option linter.unusedVariables false
set_option linter.unusedSimpArgs false
namespace Go.Proofs.YtbnemnhmejmeeaaGreatDoor.Rx
open Go.AF
/-! ### Which batches can be to blame -/
def explB (l : List Bat) (bad good i : Nat) : Bool := (List.range l.length).all fun k => (!bad.testBit k || (backN l k).testBit i) && (!good.testBit k || !(backN l k).testBit i)
def blameN (l : List Bat) (bad good : Nat) : Nat := setOf (explB l bad good) l.length
def blA (l : List Bat) (a : Nat) (ks : List Nat) : Nat := ks.foldl (fun a k => a &&& backN l k) a
def blG (l : List Bat) (a : Nat) (ks : List Nat) : Nat := ks.foldl (fun a k => a ^^^ (a &&& backN l k)) a
def blE (l : List Bat) (bad good : Int) : Int := if chkE l [bad, good] ≠ 0 then chkE l [bad, good] else if bad = 0 then 4 else if blameN l bad.toNat good.toNat = 0 then 6 else 0
def blR (l : List Bat) (bad good : Int) : Nat := if blE l bad good = 0 then blameN l bad.toNat good.toNat else 0
/-! ### What is called back -/
def soldF (l : List Bat) (n : Nat) : Nat := setOf (fun k => decide ((bt l k).s > 0)) n
def soldN (l : List Bat) : Nat := soldF l l.length
def ownN (l : List Bat) (i : Nat) : Nat := aheadN l i &&& soldN l
def sumK (l : List Bat) (ks : List Nat) : Int := (ks.map fun k => (bt l k).s).sum
def cntN (l : List Bat) (i : Nat) : Int := sumK l (bitsN (ownN l i) 32)
/-- The least and the greatest of some numbers. -/
def spF : List Int → Int × Int
  | [] => (0, 0)
  | n :: ns => ns.foldl (fun p n => (min p.1 n, max p.2 n)) (n, n)
def callN (l : List Bat) (can : Nat) : Nat := orL ((bitsN can 32).map (ownN l))
def spanN (l : List Bat) (can : Nat) : Int × Int := spF ((bitsN can 32).map (cntN l))
def recN (l : List Bat) (bad good : Int) : Nat := if blE l bad good = 0 then callN l (blR l bad good) else 0
def recS (l : List Bat) (bad good : Int) : Int × Int := if blE l bad good = 0 then spanN l (blR l bad good) else (0, 0)
def spV (s : Int × Int) : PV := .agg [.int .i64 s.1, .int .i64 s.2]
/-! ### What batches have in common -/
def hitB (l : List Bat) (own i k : Nat) : Bool := decide (k ≠ i) && own.testBit k
def lastB (l : List Bat) (own i : Nat) : Bool := !(bitsN (aheadN l i) 32).any (hitB l own i)
def lastF (l : List Bat) (own : Nat) (is : List Nat) : Nat := is.foldl (fun a i => if lastB l own i then a ||| 2 ^ i else a) 0
def lastN (l : List Bat) (own : Nat) : Nat := lastF l own (bitsN own 32)
def cmE (l : List Bat) (lots : Int) : Int := if chkE l [lots] ≠ 0 then chkE l [lots] else if lots = 0 ∨ blameN l lots.toNat 0 = 0 then 4 else 0
def cmA (l : List Bat) (lots : Int) : Nat := if cmE l lots = 0 then blameN l lots.toNat 0 else 0
def cmL (l : List Bat) (lots : Int) : Nat := if cmE l lots = 0 then lastN l (blameN l lots.toNat 0) else 0
/-! ### Ways from a batch -/
def fromE (l : List Bat) (b : Int) : Int := if crdOk l then (if inB b 0 ((l.length : Int) - 1) = true then 0 else 2) else 1
def fromN (l : List Bat) (R : Nat → Nat) (b : Int) : Nat := if fromE l b = 0 then R b.toNat else 0
theorem chk_nil (l : List Bat) : chkE l [] = if crdOk l then 0 else 1 := by unfold chkE; simp
theorem chk_ok {l : List Bat} {sets : List Int} (h : chkE l sets = 0) : crdOk l ∧ ∀ s ∈ sets, 0 ≤ s ∧ s ≤ pw l.length - 1 := by
  unfold chkE at h
  split at h
  · rename_i hC
    refine ⟨hC, fun s hs => ?_⟩
    split at h
    · cases h
    · rename_i hn
      simp only [Bool.not_eq_true, List.any_eq_false] at hn
      have := hn s hs
      simp [inB] at this
      exact this
  · cases h
theorem toNat_lt {l : List Bat} {s : Int} (h : 0 ≤ s ∧ s ≤ pw l.length - 1) : s.toNat < 2 ^ l.length := by unfold pw at h; omega
end Go.Proofs.YtbnemnhmejmeeaaGreatDoor.Rx
end
