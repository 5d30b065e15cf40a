/-
  Plain data of chapter 11: what a batch comes from, and what comes from it; a walk that marks what it met. No program in sight.
-/
import Derived.Test.YtofenmailjdehaaDoorRcP
import Derived.Test.YtofenmailjdehaaDoorAfR
set_option linter.unusedVariables false
set_option linter.unusedSimpArgs false
namespace Go.Proofs.YtofenmailjdehaaDoor
open Go.AF
def frN (l : List Bat) (i : Nat) : Nat := (bt l i).f.toNat
/-! ### Numbers whose bits are given -/
def setOf (p : Nat → Bool) : Nat → Nat
  | 0 => 0
  | n + 1 => if p n then setOf p n + 2 ^ n else setOf p n
theorem setOf_lt (p : Nat → Bool) : ∀ n, setOf p n < 2 ^ n
  | 0 => Nat.lt_succ_self 0
  | n + 1 => by
    have := setOf_lt p n
    unfold setOf
    rw [Nat.pow_succ]
    split <;> omega
theorem add_bit {a n : Nat} (h : a < 2 ^ n) (i : Nat) : (a + 2 ^ n).testBit i = if i < n then a.testBit i else decide (i = n) := by
  have := Nat.testBit_two_pow_mul_add 1 h i
  rw [Nat.mul_one, Nat.add_comm] at this
  rw [this]
  by_cases h1 : i < n
  · rw [if_pos h1, if_pos h1]
  · rw [if_neg h1, if_neg h1]
    by_cases h2 : i = n
    · subst h2; simp
    · rw [decide_eq_false h2]
      exact Nat.testBit_lt_two_pow (Nat.one_lt_two_pow (by omega))
theorem setOf_bit (p : Nat → Bool) : ∀ n i, (setOf p n).testBit i = (decide (i < n) && p i)
  | 0, i => by simp [setOf]
  | n + 1, i => by
    have hlt := setOf_lt p n
    have ih := setOf_bit p n i
    unfold setOf
    cases hp : p n with
    | true =>
      rw [if_pos rfl, add_bit hlt, ih]
      by_cases h1 : i < n
      · simp [h1, show i < n + 1 by omega]
      · by_cases h2 : i = n
        · subst h2; simp [hp]
        · simp [h1, h2, show ¬ i < n + 1 by omega]
    | false =>
      rw [if_neg (by decide), ih]
      by_cases h1 : i < n
      · simp [h1, show i < n + 1 by omega]
      · by_cases h2 : i = n
        · subst h2; simp [hp]
        · simp [h1, show ¬ i < n + 1 by omega]
/-! ### What a batch comes from -/
/-- One more: itself, and all that those come from of which it was made. -/
def stepB (l : List Bat) (t : List Nat) (n : Nat) : Nat → Nat
  | 0 => 2 ^ n
  | k + 1 => if (frN l n).testBit k then stepB l t n k ||| ut t k else stepB l t n k
def backs (l : List Bat) : Nat → List Nat
  | 0 => []
  | n + 1 => backs l n ++ [stepB l (backs l n) n n]
theorem backs_len (l : List Bat) : ∀ n, (backs l n).length = n
  | 0 => rfl
  | n + 1 => by rw [backs, List.length_append, backs_len l n]; rfl
def backN (l : List Bat) (i : Nat) : Nat := ut (backs l (i + 1)) i
theorem backs_at (l : List Bat) {i : Nat} : ∀ {n : Nat}, i < n → ut (backs l n) i = backN l i := by
  intro n
  induction n with
  | zero => intro h; omega
  | succ n ih =>
    intro h
    rcases Nat.lt_or_ge i n with h1 | h1
    · rw [← ih h1]
      unfold ut
      rw [backs, List.getD_eq_getElem?_getD, List.getD_eq_getElem?_getD, List.getElem?_append_left (by rw [backs_len]; exact h1)]
    · obtain rfl : i = n := by omega
      rfl
theorem backN_step (l : List Bat) (i : Nat) : backN l i = stepB l (backs l i) i i := by
  unfold backN ut
  rw [backs, List.getD_eq_getElem?_getD, List.getElem?_append_right (by rw [backs_len]; exact Nat.le_refl _), backs_len, Nat.sub_self]
  rfl
theorem stepB_bit (l : List Bat) (i x : Nat) : ∀ n, n ≤ i → ((stepB l (backs l i) i n).testBit x = true ↔ x = i ∨ ∃ k, k < n ∧ (frN l i).testBit k = true ∧ (backN l k).testBit x = true)
  | 0, _ => by
    show (2 ^ i).testBit x = true ↔ _
    rw [Nat.testBit_two_pow, decide_eq_true_eq]
    constructor
    · intro h; exact .inl h.symm
    · rintro (h | ⟨k, h, _⟩)
      · exact h.symm
      · omega
  | n + 1, hn => by
    have ih := stepB_bit l i x n (by omega)
    unfold stepB
    split
    · rename_i hb
      rw [Nat.testBit_or, Bool.or_eq_true, ih, backs_at l (show n < i by omega)]
      constructor
      · rintro ((h | ⟨k, h1, h2⟩) | h)
        · exact .inl h
        · exact .inr ⟨k, by omega, h2⟩
        · exact .inr ⟨n, by omega, hb, h⟩
      · rintro (h | ⟨k, h1, h2, h3⟩)
        · exact .inl (.inl h)
        · rcases Nat.lt_succ_iff_lt_or_eq.1 h1 with h4 | rfl
          · exact .inl (.inr ⟨k, h4, h2, h3⟩)
          · exact .inr h3
    · rename_i hb
      rw [ih]
      constructor
      · rintro (h | ⟨k, h1, h2⟩)
        · exact .inl h
        · exact .inr ⟨k, by omega, h2⟩
      · rintro (h | ⟨k, h1, h2, h3⟩)
        · exact .inl h
        · rcases Nat.lt_succ_iff_lt_or_eq.1 h1 with h4 | rfl
          · exact .inr ⟨k, h4, h2, h3⟩
          · exact absurd h2 hb
/-- What a batch comes from: itself, and what those come from of which it was made. -/
theorem back_iff (l : List Bat) (i x : Nat) : (backN l i).testBit x = true ↔ x = i ∨ ∃ k, k < i ∧ (frN l i).testBit k = true ∧ (backN l k).testBit x = true := by
  rw [backN_step]
  exact stepB_bit l i x i (Nat.le_refl _)
theorem back_self (l : List Bat) (i : Nat) : (backN l i).testBit i = true := (back_iff l i i).2 (.inl rfl)
theorem back_le (l : List Bat) : ∀ {i x : Nat}, (backN l i).testBit x = true → x ≤ i := by
  intro i
  induction i using Nat.strongRecOn with
  | ind i ih =>
    intro x h
    rcases (back_iff l i x).1 h with rfl | ⟨k, h1, _, h3⟩
    · exact Nat.le_refl _
    · have := ih k h1 h3; omega
theorem back_trans (l : List Bat) : ∀ {i j x : Nat}, (backN l i).testBit j = true → (backN l j).testBit x = true → (backN l i).testBit x = true := by
  intro i
  induction i using Nat.strongRecOn with
  | ind i ih =>
    intro j x h1 h2
    rcases (back_iff l i j).1 h1 with rfl | ⟨k, h3, h4, h5⟩
    · exact h2
    · exact (back_iff l i x).2 (.inr ⟨k, h3, h4, ih k h3 h5 h2⟩)
theorem back_lt (l : List Bat) (i : Nat) : backN l i < 2 ^ (i + 1) := by
  apply Nat.lt_pow_two_of_testBit
  intro x hx
  cases h : (backN l i).testBit x with
  | false => rfl
  | true => have := back_le l h; omega
/-- The cards are valid: each was made of earlier ones. -/
theorem fr_lt {l : List Bat} (h : crdOk l) {i k : Nat} (hi : i < l.length) (hk : (frN l i).testBit k = true) : k < i := by
  have h1 := (h i hi).2.1
  rcases Nat.lt_or_ge k i with h2 | h2
  · exact h2
  · exfalso
    have h3 : frN l i < 2 ^ i := by unfold frN; unfold pw at h1; omega
    rw [Nat.testBit_lt_two_pow (Nat.lt_of_lt_of_le h3 (Nat.pow_le_pow_right (by omega) h2))] at hk
    cases hk
/-! ### What comes from a batch -/
def aheadN (l : List Bat) (b : Nat) : Nat := setOf (fun i => (backN l i).testBit b) l.length
theorem ahead_bit (l : List Bat) (b i : Nat) : (aheadN l b).testBit i = (decide (i < l.length) && (backN l i).testBit b) := setOf_bit _ _ _
/-- What was made of a batch. -/
def nextN (l : List Bat) (b : Nat) : Nat := setOf (fun i => (frN l i).testBit b) l.length
theorem next_bit (l : List Bat) (b i : Nat) : (nextN l b).testBit i = (decide (i < l.length) && (frN l i).testBit b) := setOf_bit _ _ _
/-! ### A way, and all that it leads to -/
structure Way (N : Nat) (nx R rk : Nat → Nat) : Prop where
  lt : ∀ b, b < N → nx b < 2 ^ N
  rlt : ∀ b, b < N → R b < 2 ^ N
  iff : ∀ b, b < N → ∀ x, (R b).testBit x = true ↔ x = b ∨ ∃ k, (nx b).testBit k = true ∧ (R k).testBit x = true
  rk : ∀ b, b < N → ∀ k, (nx b).testBit k = true → rk k < rk b
  nlt : ∀ b, b < N → ∀ k, (nx b).testBit k = true → k < N
theorem Way.self {N : Nat} {nx R rk : Nat → Nat} (w : Way N nx R rk) {b : Nat} (h : b < N) : (R b).testBit b = true := (w.iff b h b).2 (.inl rfl)
theorem Way.rank {N : Nat} {nx R rk : Nat → Nat} (w : Way N nx R rk) : ∀ (m b : Nat), b < N → rk b ≤ m → ∀ x, (R b).testBit x = true → x < N ∧ (x = b ∨ rk x < rk b)
  | m, b, hb, hm, x, hx => by
    rcases (w.iff b hb x).1 hx with rfl | ⟨k, h1, h2⟩
    · exact ⟨hb, .inl rfl⟩
    · have h3 := w.rk b hb k h1
      have h4 := w.nlt b hb k h1
      match m, hm with
      | 0, hm => omega
      | m + 1, hm =>
        have := w.rank m k h4 (by omega) x h2
        refine ⟨this.1, .inr ?_⟩
        rcases this.2 with rfl | h5 <;> omega
theorem Way.trans {N : Nat} {nx R rk : Nat → Nat} (w : Way N nx R rk) : ∀ (m b : Nat), b < N → rk b ≤ m → ∀ x y, (R b).testBit x = true → (R x).testBit y = true → (R b).testBit y = true
  | m, b, hb, hm, x, y, h1, h2 => by
    rcases (w.iff b hb x).1 h1 with rfl | ⟨k, h3, h4⟩
    · exact h2
    · have h5 := w.rk b hb k h3
      match m, hm with
      | 0, hm => omega
      | m + 1, hm => exact (w.iff b hb y).2 (.inr ⟨k, h3, w.trans m k (w.nlt b hb k h3) (by omega) x y h4 h2⟩)
/-- What was met already and is led to was finished. -/
def MetOk (R : Nat → Nat) (b M : Nat) : Prop := ∀ x, M.testBit x = true → (R b).testBit x = true → ∀ y, (R x).testBit y = true → M.testBit y = true
/-- What was met after so many of the next ones. -/
def metF (R : Nat → Nat) (M b : Nat) : List Nat → Nat
  | ks => ks.foldl (fun a k => a ||| R k) (M ||| 2 ^ b)
theorem metF_bit (R : Nat → Nat) (M b x : Nat) (ks : List Nat) : (metF R M b ks).testBit x = true ↔ M.testBit x = true ∨ x = b ∨ ∃ k ∈ ks, (R k).testBit x = true := by
  have : ∀ (ks : List Nat) (a : Nat), (ks.foldl (fun a k => a ||| R k) a).testBit x = true ↔ a.testBit x = true ∨ ∃ k ∈ ks, (R k).testBit x = true := fun ks => by
    induction ks with
    | nil => intro a; simp
    | cons k ks ih =>
      intro a
      rw [List.foldl_cons, ih, Nat.testBit_or, Bool.or_eq_true]
      simp only [List.mem_cons, exists_eq_or_imp, or_assoc]
  unfold metF
  rw [this, Nat.testBit_or, Bool.or_eq_true, Nat.testBit_two_pow, decide_eq_true_eq, or_assoc, eq_comm (a := b)]
theorem metF_snoc (R : Nat → Nat) (M b : Nat) (ks : List Nat) (k : Nat) : metF R M b (ks ++ [k]) = metF R M b ks ||| R k := by
  unfold metF
  rw [List.foldl_append]; rfl
/-- At the next one, what was met is still in order. -/
theorem met_next {N : Nat} {nx R rk : Nat → Nat} (w : Way N nx R rk) {b M : Nat} (hb : b < N) (h : MetOk R b M) {ks : List Nat} (hk : ∀ k ∈ ks, (nx b).testBit k = true) {k : Nat} (hkb : (nx b).testBit k = true) : MetOk R k (metF R M b ks) := by
  intro x hx hxk y hy
  rw [metF_bit] at hx ⊢
  have hxb : (R b).testBit x = true := (w.iff b hb x).2 (.inr ⟨k, hkb, hxk⟩)
  rcases hx with h1 | rfl | ⟨k2, h2, h3⟩
  · exact .inl (h x h1 hxb y hy)
  · exfalso
    have h4 := w.rk x hb k hkb
    have h5 := (w.rank (rk k) k (w.nlt x hb k hkb) (Nat.le_refl _) x hxk).2
    rcases h5 with rfl | h5
    · omega
    · omega
  · exact .inr (.inr ⟨k2, h2, w.trans (rk k2) k2 (w.nlt b hb k2 (hk k2 h2)) (Nat.le_refl _) x y h3 hy⟩)
/-- Behind the last one, all that is led to was met. -/
theorem met_all {N : Nat} {nx R rk : Nat → Nat} (w : Way N nx R rk) {b M : Nat} (hb : b < N) : metF R M b (bitsN (nx b) 32) = M ||| R b ∨ 32 < N := by
  rcases Nat.lt_or_ge 32 N with hN | hN
  · exact .inr hN
  left
  apply Nat.eq_of_testBit_eq
  intro x
  have key : (metF R M b (bitsN (nx b) 32)).testBit x = true ↔ (M ||| R b).testBit x = true := by
    rw [metF_bit, Nat.testBit_or, Bool.or_eq_true, w.iff b hb x]
    constructor
    · rintro (h | h | ⟨k, h1, h2⟩)
      · exact .inl h
      · exact .inr (.inl h)
      · exact .inr (.inr ⟨k, (bits_mem.1 h1).2, h2⟩)
    · rintro (h | h | ⟨k, h1, h2⟩)
      · exact .inl h
      · exact .inr (.inl h)
      · exact .inr (.inr ⟨k, bits_mem.2 ⟨by have := w.nlt b hb k h1; omega, h1⟩, h2⟩)
  cases h1 : (metF R M b (bitsN (nx b) 32)).testBit x with
  | true => exact (key.1 h1).symm
  | false =>
    cases h2 : (M ||| R b).testBit x with
    | false => rfl
    | true => rw [key.2 h2] at h1; cases h1
/-- It was met: nothing is new. -/
theorem met_old {N : Nat} {nx R rk : Nat → Nat} (w : Way N nx R rk) {b M : Nat} (hb : b < N) (h : MetOk R b M) (hm : M.testBit b = true) : M ||| R b = M := by
  apply Nat.eq_of_testBit_eq
  intro x
  rw [Nat.testBit_or]
  cases h1 : (R b).testBit x with
  | false => rw [Bool.or_false]
  | true => rw [h b hm (w.self hb) x h1]; rfl
/-! ### The two ways -/
theorem way_back {l : List Bat} (h : crdOk l) : Way l.length (frN l) (backN l) (fun b => b) := by
  have h24 := crd24 h
  refine ⟨fun b hb => ?_, fun b hb => ?_, fun b hb x => ?_, fun b hb k hk => fr_lt h hb hk, fun b hb k hk => by have := fr_lt h hb hk; omega⟩
  · have h1 := (h b hb).2.1
    have h2 := Nat.pow_le_pow_right (show 0 < 2 by omega) (show b ≤ l.length by omega)
    unfold frN
    unfold pw at h1
    omega
  · exact Nat.lt_of_lt_of_le (back_lt l b) (Nat.pow_le_pow_right (by omega) hb)
  · rw [back_iff]
    constructor
    · rintro (h1 | ⟨k, _, h2⟩)
      · exact .inl h1
      · exact .inr ⟨k, h2⟩
    · rintro (h1 | ⟨k, h2, h3⟩)
      · exact .inl h1
      · exact .inr ⟨k, fr_lt h hb h2, h2, h3⟩
theorem ahead_iff {l : List Bat} (h : crdOk l) {b : Nat} (hb : b < l.length) (x : Nat) : (aheadN l b).testBit x = true ↔ x = b ∨ ∃ k, (nextN l b).testBit k = true ∧ (aheadN l k).testBit x = true := by
  rw [ahead_bit, Bool.and_eq_true, decide_eq_true_eq]
  constructor
  · rintro ⟨hx, h1⟩
    -- go back from x until the last step before b
    have key : ∀ x, x < l.length → (backN l x).testBit b = true → x = b ∨ ∃ k, (nextN l b).testBit k = true ∧ (backN l x).testBit k = true := by
      intro x
      induction x using Nat.strongRecOn with
      | ind x ih =>
        intro hx h1
        rcases (back_iff l x b).1 h1 with rfl | ⟨k, h2, h3, h4⟩
        · exact .inl rfl
        · rcases ih k h2 (by omega) h4 with rfl | ⟨m, h5, h6⟩
          · refine .inr ⟨x, ?_, back_self l x⟩
            rw [next_bit, h3]; simp [hx]
          · exact .inr ⟨m, h5, (back_iff l x m).2 (.inr ⟨k, h2, h3, h6⟩)⟩
    rcases key x hx h1 with h2 | ⟨k, h2, h3⟩
    · exact .inl h2
    · refine .inr ⟨k, h2, ?_⟩
      rw [ahead_bit, h3]; simp [hx]
  · rintro (rfl | ⟨k, h1, h2⟩)
    · exact ⟨hb, back_self l x⟩
    · rw [ahead_bit, Bool.and_eq_true, decide_eq_true_eq] at h2
      rw [next_bit, Bool.and_eq_true, decide_eq_true_eq] at h1
      have h3 : (backN l k).testBit b = true := (back_iff l k b).2 (.inr ⟨b, fr_lt h h1.1 h1.2, h1.2, back_self l b⟩)
      exact ⟨h2.1, back_trans l h2.2 h3⟩
theorem way_ahead {l : List Bat} (h : crdOk l) : Way l.length (nextN l) (aheadN l) (fun b => l.length - b) := by
  refine ⟨fun b _ => setOf_lt _ _, fun b _ => setOf_lt _ _, fun b hb x => ahead_iff h hb x, fun b hb k hk => ?_, fun b hb k hk => ?_⟩
  · rw [next_bit, Bool.and_eq_true, decide_eq_true_eq] at hk
    have := fr_lt h hk.1 hk.2
    show l.length - k < l.length - b
    omega
  · rw [next_bit, Bool.and_eq_true, decide_eq_true_eq] at hk
    exact hk.1
/-! ### The way ahead, as a map -/
def ahdS (i : Nat) (ms : List (Int × Nat)) (ks : List Nat) : List (Int × Nat) := ks.foldl (fun ms k => mset ((k : Nat) : Int) (((mget ((k : Nat) : Int) ms).getD 0) ||| 2 ^ i) ms) ms
theorem ahdS_snoc (i : Nat) (ms : List (Int × Nat)) (ks : List Nat) (k : Nat) : ahdS i ms (ks ++ [k]) = mset ((k : Nat) : Int) (((mget ((k : Nat) : Int) (ahdS i ms ks)).getD 0) ||| 2 ^ i) (ahdS i ms ks) := by
  unfold ahdS
  rw [List.foldl_append]; rfl
theorem ahdS_get (i k : Nat) : ∀ (ks : List Nat) (ms : List (Int × Nat)), ks.Nodup → (mget ((k : Nat) : Int) (ahdS i ms ks)).getD 0 = if k ∈ ks then (mget ((k : Nat) : Int) ms).getD 0 ||| 2 ^ i else (mget ((k : Nat) : Int) ms).getD 0
  | [], ms, _ => by simp [ahdS]
  | q :: ks, ms, hn => by
    rw [List.nodup_cons] at hn
    have ih := ahdS_get i k ks (mset ((q : Nat) : Int) (((mget ((q : Nat) : Int) ms).getD 0) ||| 2 ^ i) ms) hn.2
    rw [mget_mset] at ih
    have e : ahdS i ms (q :: ks) = ahdS i (mset ((q : Nat) : Int) (((mget ((q : Nat) : Int) ms).getD 0) ||| 2 ^ i) ms) ks := rfl
    rw [e, ih]
    by_cases h : k = q
    · subst h
      rw [if_neg hn.1, if_pos rfl, if_pos (by simp)]
      rfl
    · have h2 : ¬ ((k : Nat) : Int) = ((q : Nat) : Int) := by omega
      simp [h, h2]
theorem bits_nodup (n p : Nat) : (bitsN n p).Nodup := by
  unfold bitsN
  exact List.Pairwise.filter _ List.nodup_range
def ahdM (l : List Bat) : Nat → List (Int × Nat)
  | 0 => []
  | i + 1 => ahdS i (ahdM l i) (bitsN (frN l i) 32)
theorem ahdM_get {l : List Bat} (h : crdOk l) (k : Nat) : ∀ n, n ≤ l.length → (mget ((k : Nat) : Int) (ahdM l n)).getD 0 = setOf (fun i => (frN l i).testBit k) n
  | 0, _ => rfl
  | n + 1, hn => by
    have h24 := crd24 h
    have ih := ahdM_get h k n (by omega)
    rw [ahdM, ahdS_get _ _ _ _ (bits_nodup _ _), ih, setOf]
    by_cases hb : (frN l n).testBit k = true
    · have hk := fr_lt h (show n < l.length by omega) hb
      rw [if_pos (bits_mem.2 ⟨by omega, hb⟩), if_pos hb]
      apply Nat.eq_of_testBit_eq
      intro x
      have hlt := setOf_lt (fun i => (frN l i).testBit k) n
      rw [add_bit hlt, Nat.testBit_or, Nat.testBit_two_pow]
      by_cases h1 : x < n
      · simp [h1, show ¬ n = x by omega]
      · rw [if_neg h1, setOf_bit]
        simp [h1, eq_comm]
    · rw [if_neg (fun h2 => hb (bits_mem.1 h2).2), if_neg hb]
theorem bitsX_get {n k : Nat} {x : List V} (h : (bitsX n)[k]? = some x) : ∃ q, (bitsN n 32)[k]? = some q ∧ x = [V.p (.int .i64 ((q : Nat) : Int))] := by
  unfold bitsX at h
  rw [List.getElem?_map, Option.map_eq_some_iff] at h
  obtain ⟨q, h1, h2⟩ := h
  exact ⟨q, h1, h2.symm⟩
theorem take_snoc {α : Type} {l : List α} {k : Nat} {q : α} (h : l[k]? = some q) : l.take (k + 1) = l.take k ++ [q] := by
  obtain ⟨h1, h2⟩ := List.getElem?_eq_some_iff.1 h
  rw [List.take_succ_eq_append_getElem h1, h2]
theorem ahdK_lt {l : List Bat} (h : crdOk l) {i : Nat} (hi : i < l.length) (q k : Nat) : (mget ((q : Nat) : Int) (ahdS i (ahdM l i) ((bitsN (frN l i) 32).take k))).getD 0 < 2 ^ 32 := by
  have h24 := crd24 h
  rw [ahdS_get _ _ _ _ ((List.take_sublist _ _).nodup (bits_nodup _ _)), ahdM_get h q i (by omega)]
  have h1 := setOf_lt (fun i => (frN l i).testBit q) i
  have h2 := Nat.pow_le_pow_right (show 0 < 2 by omega) (show i ≤ 31 by omega)
  have h3 : setOf (fun i => (frN l i).testBit q) i < 2 ^ 32 := by omega
  split
  · exact Nat.or_lt_two_pow h3 (by omega)
  · exact h3
def u32V (n : Nat) : PV := .int .u32 (n : Int)
def ahdV (l : List Bat) : PV := mapP (PV.int .i64) u32V (ahdM l l.length)
/-- What was met, cell by cell. -/
def metB (M : Nat) : List Bool := (List.range 24).map fun i => M.testBit i
def b1 (b : Bool) : List PV := [.bool b]
theorem metB_get {M i : Nat} (h : i < (metB M).length) : (metB M)[i] = M.testBit i := by simp [metB]
theorem metB_len (M : Nat) : (metB M).length = 24 := by simp [metB]
theorem metB_set {M b : Nat} (h : b < 24) : (metB M).set b true = metB (M ||| 2 ^ b) := by
  apply List.ext_getElem
  · simp [metB]
  · intro i h1 h2
    rw [metB_len] at h2
    rw [List.getElem_set, metB_get, metB_get, Nat.testBit_or, Nat.testBit_two_pow]
    by_cases h3 : b = i
    · subst h3; simp
    · rw [if_neg h3]
      simp [h3]
end Go.Proofs.YtofenmailjdehaaDoor
