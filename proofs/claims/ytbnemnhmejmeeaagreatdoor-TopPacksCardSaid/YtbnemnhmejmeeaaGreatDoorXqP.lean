/-
  The plain law of boxes: needs and stocks by sets; a greedy choice keeps all others possible. No program in sight.
  The plain law of boxes: what lacks most, and how many boxes can be filled. No program in sight.
  The boxes' data, as cells.
  A stock: how many pencils each set has, as a map.
  What the search for the greatest number of boxes finds. No program in sight.
  How boxes are filled, and how many pencils of a pile are needed, in plain Lean.
  What Fill returns is an assignment, in plain Lean.
-/
import Derived.Test.YtbnemnhmejmeeaaGreatDoorPm
import Derived.Test.YtbnemnhmejmeeaaGreatDoorFaD
section
set_option linter.unusedVariables false
set_option linter.unusedSimpArgs false
namespace Go.Proofs.YtbnemnhmejmeeaaGreatDoor.Bx
/-- A pile: its shades by bits, and how many. -/
structure Pl where
  s : Nat
  m : Int
/-- What a set needs. -/
def sumS (v : List Int) (s : Nat) : Int := isum (fun i => if s.testBit i then v[i]?.getD 0 else 0) v.length
/-- What a set has. -/
def ofP (l : List Pl) (s : Nat) : Int := (l.map fun p => if p.s &&& s = 0 then 0 else p.m).sum
theorem sumS_zero (v : List Int) : sumS v 0 = 0 := isum_zero _ fun i _ => by simp
theorem sumS_mod (v : List Int) (s t : Nat) : sumS v (s ||| t) + sumS v (s &&& t) = sumS v s + sumS v t := by
  unfold sumS
  rw [← isum_add, ← isum_add]
  refine isum_congr _ fun i _ => ?_
  simp only [Nat.testBit_or, Nat.testBit_and]
  cases s.testBit i <;> cases t.testBit i <;> simp
theorem meets_or (p s t : Nat) : p &&& (s ||| t) = 0 ↔ p &&& s = 0 ∧ p &&& t = 0 := by
  rw [Nat.and_or_distrib_left]
  exact Nat.or_eq_zero_iff
theorem meets_and {p s t : Nat} (h : ¬ p &&& (s &&& t) = 0) : ¬ p &&& s = 0 ∧ ¬ p &&& t = 0 := by
  constructor
  · intro h1
    rw [← Nat.and_assoc, h1, Nat.zero_and] at h
    exact h rfl
  · intro h1
    rw [Nat.and_comm s t, ← Nat.and_assoc, h1, Nat.zero_and] at h
    exact h rfl
def posP (l : List Pl) : Prop := ∀ p ∈ l, 0 ≤ p.m
theorem ofP_sub {l : List Pl} (hl : posP l) (s t : Nat) : ofP l (s ||| t) + ofP l (s &&& t) ≤ ofP l s + ofP l t := by
  unfold ofP
  rw [← lsum_add, ← lsum_add]
  refine lsum_mono l fun p hp => ?_
  have h0 := hl p hp
  have h1 := meets_or p.s s t
  have h2 := meets_and (p := p.s) (s := s) (t := t)
  by_cases a : p.s &&& s = 0 <;> by_cases b : p.s &&& t = 0 <;> by_cases c : p.s &&& (s &&& t) = 0 <;> simp_all <;> omega
theorem ofP_nonneg {l : List Pl} (hl : posP l) (s : Nat) : 0 ≤ ofP l s := lsum_nonneg l fun p hp => by
  split
  · omega
  · exact hl p hp
/-- A part of a set has no more. -/
theorem ofP_part {l : List Pl} (hl : posP l) (s t : Nat) : ofP l (s &&& t) ≤ ofP l t := by
  unfold ofP
  refine lsum_mono l fun p hp => ?_
  have h0 := hl p hp
  have h2 := meets_and (p := p.s) (s := s) (t := t)
  by_cases b : p.s &&& t = 0 <;> by_cases c : p.s &&& (s &&& t) = 0 <;> simp_all
theorem ofP_cons (p : Pl) (l : List Pl) (s : Nat) : ofP (p :: l) s = (if p.s &&& s = 0 then 0 else p.m) + ofP l s := by simp [ofP]
/-- No set lacks anything. -/
def Hall (v : List Int) (l : List Pl) : Prop := ∀ s, sumS v s ≤ ofP l s
/-- The list with one number less. -/
def lessV (v : List Int) (j : Nat) (n : Int) : List Int := v.set j (v[j]?.getD 0 - n)
theorem lessV_length (v : List Int) (j : Nat) (n : Int) : (lessV v j n).length = v.length := by simp [lessV]
theorem sumS_less {v : List Int} {j : Nat} (hj : j < v.length) (n : Int) (s : Nat) : sumS (lessV v j n) s = sumS v s - if s.testBit j then n else 0 := by
  unfold sumS
  rw [lessV_length]
  have h := isum_turn (f := fun i => if s.testBit i then v[i]?.getD 0 else 0) (g := fun i => if s.testBit i then (lessV v j n)[i]?.getD 0 else 0) v.length hj (fun i hi hne => by
    have : (lessV v j n)[i]? = v[i]? := by unfold lessV; rw [List.getElem?_set_ne (Ne.symm hne)]
    simp only [this])
  rw [h]
  have e : (lessV v j n)[j]?.getD 0 = v[j]?.getD 0 - n := by
    unfold lessV
    rw [List.getElem?_set_self hj]
    rfl
  simp only [e]
  split <;> omega
/-- The set without one shade. -/
def dropB (s j : Nat) : Nat := if s.testBit j then s ^^^ 2 ^ j else s
theorem testBit_dropB (s j i : Nat) : (dropB s j).testBit i = (s.testBit i && !decide (i = j)) := by
  unfold dropB
  split
  · rename_i h
    rw [Nat.testBit_xor, Nat.testBit_two_pow]
    by_cases e : i = j
    · subst e; simp [h]
    · have e' : ¬ j = i := fun h => e h.symm
      simp [e, e']
  · rename_i h
    by_cases e : i = j
    · subst e; simp at h; simp [h]
    · simp [e]
theorem and_zero_iff (p s : Nat) : p &&& s = 0 ↔ ∀ i, ¬ (p.testBit i = true ∧ s.testBit i = true) := by
  constructor
  · intro h i ⟨h1, h2⟩
    have : (p &&& s).testBit i = true := by rw [Nat.testBit_and, h1, h2]; rfl
    rw [h] at this
    simp at this
  · intro h
    apply Nat.eq_of_testBit_eq
    intro i
    rw [Nat.testBit_and, Nat.zero_testBit]
    have := h i
    revert this
    cases p.testBit i <;> cases s.testBit i <;> simp
theorem dropB_part (s j : Nat) : dropB s j &&& s = dropB s j := by
  apply Nat.eq_of_testBit_eq
  intro i
  rw [Nat.testBit_and, testBit_dropB]
  cases s.testBit i <;> simp
theorem sumS_drop {v : List Int} {s j : Nat} (hj : j < v.length) (h : s.testBit j = true) : sumS v (dropB s j) = sumS v s - v[j]?.getD 0 := by
  unfold sumS
  rw [isum_turn (f := fun i => if s.testBit i then v[i]?.getD 0 else 0) (g := fun i => if (dropB s j).testBit i then v[i]?.getD 0 else 0) v.length hj (fun i hi hne => by
    simp only [testBit_dropB]
    simp [hne])]
  simp only [testBit_dropB, h]
  simp
/-- **The greedy choice.** A pile that may be sold as shade j, and as those of q beside it; n of it are sold as j, as great as can be so that all others can still be had: then all is possible as before. -/
theorem greedy {v : List Int} {q : Nat} {m n : Int} {rest : List Pl} {j : Nat} (hj : j < v.length) (hq : q.testBit j = false) (hr : posP rest) (hm : n ≤ m)
    (H : ∀ s, sumS v s ≤ (if (q ||| 2 ^ j) &&& s = 0 then 0 else m) + ofP rest s)
    (hc : ∀ s, s.testBit j = false → sumS v s ≤ (if q &&& s = 0 then 0 else m - n) + ofP rest s)
    (hmax : n = m ∨ n = v[j]?.getD 0 ∨ ∃ t, t.testBit j = false ∧ ¬ q &&& t = 0 ∧ m - n + ofP rest t ≤ sumS v t) :
    ∀ s, sumS (lessV v j n) s ≤ (if q &&& s = 0 then 0 else m - n) + ofP rest s := by
  intro s
  rw [sumS_less hj]
  cases hs : s.testBit j with
  | false =>
    have := hc s hs
    simpa using this
  | true =>
    simp only [if_true]
    have hbit : ¬ (q ||| 2 ^ j) &&& s = 0 := fun h => by
      have := (and_zero_iff _ _).1 h j
      rw [Nat.testBit_or, Nat.testBit_two_pow_self, hs] at this
      simp at this
    have h2 := H s
    rw [if_neg hbit] at h2
    by_cases hqs : q &&& s = 0
    · rw [if_pos hqs]
      -- the set without j: the pile does not meet it
      have hd : (q ||| 2 ^ j) &&& dropB s j = 0 := by
        rw [and_zero_iff]
        rintro i ⟨h3, h4⟩
        rw [testBit_dropB] at h4
        simp at h4
        rw [Nat.testBit_or, Nat.testBit_two_pow] at h3
        have hne : ¬ j = i := fun e => h4.2 e.symm
        simp [hne] at h3
        exact (and_zero_iff _ _).1 hqs i ⟨h3, h4.1⟩
      have h5 := H (dropB s j)
      rw [if_pos hd, sumS_drop hj hs] at h5
      have h6 := ofP_part hr (dropB s j) s
      rw [dropB_part] at h6
      rcases hmax with e | e | ⟨t, ht, hqt, hle⟩
      · omega
      · omega
      · have h7 := H (s ||| t)
        have hne : ¬ (q ||| 2 ^ j) &&& (s ||| t) = 0 := fun h => hbit ((meets_or _ _ _).1 h).1
        rw [if_neg hne] at h7
        have h8 := H (s &&& t)
        have hst : (q ||| 2 ^ j) &&& (s &&& t) = 0 := by
          rw [and_zero_iff]
          rintro i ⟨h3, h4⟩
          rw [Nat.testBit_and] at h4
          simp at h4
          rw [Nat.testBit_or, Nat.testBit_two_pow] at h3
          by_cases e : j = i
          · subst e; rw [ht] at h4; simp at h4
          · simp [e] at h3
            exact (and_zero_iff _ _).1 hqs i ⟨h3, h4.1⟩
        rw [if_pos hst] at h8
        have h9 := sumS_mod v s t
        have h10 := ofP_sub hr s t
        omega
    · rw [if_neg hqs]
      omega
end Go.Proofs.YtbnemnhmejmeeaaGreatDoor.Bx
end

section
set_option linter.unusedVariables false
set_option linter.unusedSimpArgs false
namespace Go.Proofs.YtbnemnhmejmeeaaGreatDoor.Bx
/-- The set that lacks most, of the first ones, and how many. -/
def lkF (v : List Int) (l : List Pl) : Nat → Nat × Int
  | 0 => (0, 0)
  | k + 1 => if (lkF v l k).2 < sumS v (k + 1) - ofP l (k + 1) then (k + 1, sumS v (k + 1) - ofP l (k + 1)) else lkF v l k
theorem lkF_ge (v : List Int) (l : List Pl) : ∀ k s, 1 ≤ s → s ≤ k → sumS v s - ofP l s ≤ (lkF v l k).2
  | 0, s, h1, h2 => by omega
  | k + 1, s, h1, h2 => by
    simp only [lkF]
    rcases Nat.lt_succ_iff_lt_or_eq.1 (Nat.lt_succ_of_le h2) with h | rfl
    · have := lkF_ge v l k s h1 (by omega)
      split <;> (try dsimp only) <;> omega
    · split <;> (try dsimp only) <;> omega
theorem lkF_nonneg (v : List Int) (l : List Pl) : ∀ k, 0 ≤ (lkF v l k).2
  | 0 => Int.le_refl _
  | k + 1 => by
    have := lkF_nonneg v l k
    simp only [lkF]
    split <;> (try dsimp only) <;> omega
/-- It is the first one that lacks so many; none lacks anything if it is 0. -/
theorem lkF_at (v : List Int) (l : List Pl) : ∀ k, ((lkF v l k).1 = 0 ∧ (lkF v l k).2 = 0) ∨ ((1 ≤ (lkF v l k).1 ∧ (lkF v l k).1 ≤ k) ∧ 0 < (lkF v l k).2 ∧ (lkF v l k).2 = sumS v (lkF v l k).1 - ofP l (lkF v l k).1 ∧ ∀ s, 1 ≤ s → s < (lkF v l k).1 → sumS v s - ofP l s < (lkF v l k).2)
  | 0 => .inl ⟨rfl, rfl⟩
  | k + 1 => by
    have ih := lkF_at v l k
    have hn := lkF_nonneg v l k
    simp only [lkF]
    split
    · rename_i h
      right
      refine ⟨⟨by dsimp only; omega, by dsimp only; omega⟩, by dsimp only; omega, rfl, fun s h1 h2 => ?_⟩
      have := lkF_ge v l k s h1 (by dsimp only at h2; omega)
      dsimp only
      omega
    · rcases ih with h | ⟨h1, h2⟩
      · exact .inl h
      · exact .inr ⟨⟨h1.1, by omega⟩, h2⟩
theorem lkF_zero {v : List Int} {l : List Pl} {k : Nat} : (lkF v l k).2 = 0 ↔ ∀ s, 1 ≤ s → s ≤ k → sumS v s ≤ ofP l s := by
  constructor
  · intro h s h1 h2
    have := lkF_ge v l k s h1 h2
    omega
  · intro h
    rcases lkF_at v l k with h1 | ⟨h1, h2, h3, _⟩
    · exact h1.2
    · have := h _ h1.1 h1.2
      omega
def allS (n : Nat) : Nat := 2 ^ n - 1
/-- No set lacks anything, by all sets of the shades. -/
theorem hall_iff {v : List Int} {l : List Pl} (hl : posP l) (hs : ∀ p ∈ l, p.s < 2 ^ v.length) : (lkF v l (allS v.length)).2 = 0 ↔ Hall v l := by
  rw [lkF_zero]
  constructor
  · intro h s
    have e1 : sumS v s = sumS v (s % 2 ^ v.length) := isum_congr _ fun i hi => by
      simp only [Nat.testBit_mod_two_pow, hi, decide_true, Bool.true_and]
    have e2 : ofP l (s % 2 ^ v.length) = ofP l s := by
      unfold ofP
      congr 1
      refine List.map_congr_left fun p hp => ?_
      have e3 : p.s &&& (s % 2 ^ v.length) = 0 ↔ p.s &&& s = 0 := by
        rw [and_zero_iff, and_zero_iff]
        constructor
        · intro h i ⟨h1, h2⟩
          refine h i ⟨h1, ?_⟩
          have hlt : i < v.length := by
            rcases Nat.lt_or_ge i v.length with h3 | h3
            · exact h3
            · have := Nat.testBit_lt_two_pow (Nat.lt_of_lt_of_le (hs p hp) (Nat.pow_le_pow_right (by omega) h3))
              rw [h1] at this; cases this
          rw [Nat.testBit_mod_two_pow]; simp [hlt, h2]
        · intro h i ⟨h1, h2⟩
          rw [Nat.testBit_mod_two_pow] at h2
          simp at h2
          exact h i ⟨h1, h2.2⟩
      simp only [e3]
    rw [e1, ← e2]
    have hlt := Nat.mod_lt s (Nat.two_pow_pos v.length)
    rcases Nat.eq_zero_or_pos (s % 2 ^ v.length) with h0 | h0
    · rw [h0, sumS_zero]
      exact ofP_nonneg hl 0
    · exact h _ h0 (by unfold allS; omega)
  · intro h s _ _
    exact h s
/-! ### How many boxes -/
def timesV (need : List Int) (b : Int) : List Int := need.map fun x => x * b
theorem timesV_length (need : List Int) (b : Int) : (timesV need b).length = need.length := by simp [timesV]
def okN (need : List Int) : Prop := ∀ x ∈ need, 0 ≤ x ∧ x ≤ 48
theorem getD_nonneg {v : List Int} (h : ∀ x ∈ v, 0 ≤ x) (i : Nat) : 0 ≤ v[i]?.getD 0 := by
  cases e : v[i]? with
  | none => simp
  | some x => simpa using h x (List.mem_of_getElem? e)
/-- So many boxes can be filled. -/
def canB (need : List Int) (l : List Pl) (b : Int) : Bool := decide ((lkF (timesV need b) l (allS need.length)).2 = 0)
/-- The least of what sets have for so many boxes: -1 at first. -/
def quF (need : List Int) (l : List Pl) : Nat → Int
  | 0 => -1
  | k + 1 => if 0 < sumS need (k + 1) ∧ (quF need l k < 0 ∨ ofP l (k + 1) / sumS need (k + 1) < quF need l k) then ofP l (k + 1) / sumS need (k + 1) else quF need l k
/-- The first set that has less than it needs; 0: none. -/
def pfF (need : List Int) (l : List Pl) (b : Int) : Nat → Nat
  | 0 => 0
  | k + 1 => if pfF need l b k = 0 then (if ofP l (k + 1) < b * sumS need (k + 1) then k + 1 else 0) else pfF need l b k
end Go.Proofs.YtbnemnhmejmeeaaGreatDoor.Bx
end

section
set_option linter.unusedVariables false
set_option linter.unusedSimpArgs false
namespace Go.Proofs.YtbnemnhmejmeeaaGreatDoor.Bx
open Go.AF
def i1 (x : Int) : List PV := [.int .i64 x]
def intsV (v : List Int) : PV := .is (v.flatMap i1) v.length
/-- A pile as it comes. -/
structure Pr where
  s : Int
  m : Int
def Pr.cells (p : Pr) : List PV := [.int .i64 p.s, .int .i64 p.m]
def rawV (l : List Pr) : PV := .is (l.flatMap Pr.cells) l.length
def Pl.cells (p : Pl) : List PV := [.int .i64 (p.s : Int), .int .i64 p.m]
def plV (l : List Pl) : PV := .is (l.flatMap Pl.cells) l.length
def bigN : Nat := 9223372036854775807
/-- Piles that are valid, for so many shades. -/
def okP (n : Nat) (l : List Pl) : Prop := l.length ≤ 8 ∧ ∀ p ∈ l, p.s < 2 ^ n ∧ 0 ≤ p.m ∧ p.m ≤ 1048576
/-- Needs that are not too great. -/
def okV (v : List Int) : Prop := v.length ≤ 8 ∧ ∀ x ∈ v, 0 ≤ x ∧ x ≤ 1000000000000
theorem okP.pos {n : Nat} {l : List Pl} (h : okP n l) : posP l := fun p hp => (h.2 p hp).2.1
theorem testBit_iff (s i : Nat) : s.testBit i = decide (((s / 2 ^ i % 2 : Nat) : Int) = 1) := by
  rw [Nat.testBit_eq_decide_div_mod_eq]
  congr 1
  exact propext ⟨fun h => by omega, fun h => by omega⟩
theorem testBit_and1 (s i : Nat) : s.testBit i = decide (((s / 2 ^ i &&& 1 : Nat) : Int) = 1) := by
  rw [testBit_iff, Nat.and_one_is_mod]
theorem pow_le {n : Nat} (h : n ≤ 60) : 2 ^ n ≤ 1152921504606846976 := Nat.pow_le_pow_right (by omega) h
theorem pow8 {n : Nat} (h : n ≤ 8) : 2 ^ n ≤ 256 := Nat.pow_le_pow_right (by omega) h
theorem pow_pos' (n : Nat) : 1 ≤ 2 ^ n := Nat.two_pow_pos n
def sumN (v : List Int) (s k : Nat) : Int := isum (fun i => if s.testBit i then v[i]?.getD 0 else 0) k
theorem sumN_succ {v : List Int} {s k : Nat} (h : k < v.length) : sumN v s (k + 1) = sumN v s k + if s.testBit k then v[k] else 0 := by
  simp only [sumN, isum]
  rw [List.getElem?_eq_getElem h, Option.getD_some]
theorem sumN_B {v : List Int} (h : okV v) (s k : Nat) (hk : k ≤ v.length) : 0 ≤ sumN v s k ∧ sumN v s k ≤ 8000000000000 := by
  have h1 := isum_B (f := fun i => if s.testBit i then v[i]?.getD 0 else 0) (A := 0) (B := 1000000000000) k (fun j hj => by
    have := h.2 v[j] (List.getElem_mem _)
    rw [List.getElem?_eq_getElem (by omega), Option.getD_some]
    split <;> omega)
  have := h.1
  unfold sumN
  omega
theorem ofP_take {l : List Pl} {s k : Nat} (h : k < l.length) : ofP (l.take (k + 1)) s = ofP (l.take k) s + if l[k].s &&& s = 0 then 0 else l[k].m := by
  unfold ofP
  rw [← List.take_append_getElem h, List.map_append, List.sum_append]
  simp
theorem ofP_B {n : Nat} {l : List Pl} (h : okP n l) (s k : Nat) : 0 ≤ ofP (l.take k) s ∧ ofP (l.take k) s ≤ 8388608 := by
  have h1 : posP (l.take k) := fun p hp => (h.2 p (List.mem_of_mem_take hp)).2.1
  refine ⟨ofP_nonneg h1 s, ?_⟩
  have gen : ∀ l' : List Pl, (∀ p ∈ l', 0 ≤ p.m ∧ p.m ≤ 1048576) → ofP l' s ≤ 1048576 * (l'.length : Int) := by
    intro l'
    induction l' with
    | nil => intro _; simp [ofP]
    | cons p l' ih =>
      intro hp
      have := ih (fun q hq => hp q (by simp [hq]))
      have := hp p (by simp)
      rw [ofP_cons, List.length_cons]
      split <;> omega
  have := gen (l.take k) (fun p hp => (h.2 p (List.mem_of_mem_take hp)).2)
  have h2 : (l.take k).length ≤ 8 := by rw [List.length_take]; have := h.1; omega
  omega
theorem timesV_get {need : List Int} {b : Int} {k : Nat} (h : k < need.length) : (timesV need b).take (k + 1) = (timesV need b).take k ++ [need[k] * b] := by
  have h' : k < (timesV need b).length := by rw [timesV_length]; exact h
  rw [← List.take_append_getElem h']
  simp [timesV]
theorem mul_B {x b : Int} (h0 : 0 ≤ x) (h1 : x ≤ 48) (b0 : 0 ≤ b) (b1 : b ≤ 10000000000) : 0 ≤ b * x ∧ b * x ≤ 480000000000 := by
  refine ⟨Int.mul_nonneg b0 h0, ?_⟩
  have h2 := Int.mul_le_mul_of_nonneg_left h1 b0
  omega
theorem timesV_ok {need : List Int} {b : Int} (hn : okN need) (h8 : need.length ≤ 8) (b0 : 0 ≤ b) (b1 : b ≤ 10000000000) : okV (timesV need b) := by
  refine ⟨by rw [timesV_length]; exact h8, fun x hx => ?_⟩
  obtain ⟨y, hy, rfl⟩ := List.mem_map.1 hx
  have h1 := hn y hy
  have h2 := mul_B h1.1 h1.2 b0 b1
  rw [Int.mul_comm]
  omega
theorem sumS_B {v : List Int} (h : okV v) (s : Nat) : 0 ≤ sumS v s ∧ sumS v s ≤ 8000000000000 := sumN_B h s _ (Nat.le_refl _)
theorem ofP_BB {n : Nat} {l : List Pl} (h : okP n l) (s : Nat) : 0 ≤ ofP l s ∧ ofP l s ≤ 8388608 := by
  have := ofP_B h s l.length
  rwa [List.take_length] at this
theorem lkF_B {v : List Int} {l : List Pl} {n : Nat} (hv : okV v) (hl : okP n l) : ∀ k, (lkF v l k).1 ≤ k ∧ 0 ≤ (lkF v l k).2 ∧ (lkF v l k).2 ≤ 8000000000000
  | 0 => ⟨Nat.le_refl _, Int.le_refl _, by show (0 : Int) ≤ _; omega⟩
  | k + 1 => by
    have ih := lkF_B hv hl k
    have h1 := sumS_B hv (k + 1)
    have h2 := ofP_BB hl (k + 1)
    simp only [lkF]
    split <;> (try dsimp only) <;> omega
/-! ### What is valid -/
def okPr (n : Nat) (p : Pr) : Prop := (0 ≤ p.s ∧ p.s ≤ ((2 ^ n : Nat) : Int) - 1) ∧ 0 ≤ p.m ∧ p.m ≤ 1048576
instance (n : Nat) (p : Pr) : Decidable (okPr n p) := by unfold okPr; infer_instance
def Vld (need : List Int) (l : List Pr) : Prop := (1 ≤ need.length ∧ need.length ≤ 8) ∧ l.length ≤ 8 ∧ okN need ∧ (∀ p ∈ l, okPr need.length p) ∧ 0 < need.sum
instance (need : List Int) : Decidable (okN need) := by unfold okN; infer_instance
instance (need : List Int) (l : List Pr) : Decidable (Vld need l) := by unfold Vld; infer_instance
theorem take_sum {v : List Int} {k : Nat} (h : k < v.length) : (v.take (k + 1)).sum = (v.take k).sum + v[k] := by
  rw [← List.take_append_getElem h, List.sum_append]
  simp
theorem okN_take {v : List Int} {P : Int → Prop} {k : Nat} (h : k < v.length) (h1 : ∀ x ∈ v.take k, P x) (h2 : P v[k]) : ∀ x ∈ v.take (k + 1), P x := by
  intro x hx
  rw [← List.take_append_getElem h] at hx
  rcases List.mem_append.1 hx with h3 | h3
  · exact h1 x h3
  · simp at h3; subst h3; exact h2
theorem okP_take {l : List Pr} {P : Pr → Prop} {k : Nat} (h : k < l.length) (h1 : ∀ x ∈ l.take k, P x) (h2 : P l[k]) : ∀ x ∈ l.take (k + 1), P x := by
  intro x hx
  rw [← List.take_append_getElem h] at hx
  rcases List.mem_append.1 hx with h3 | h3
  · exact h1 x h3
  · simp at h3; subst h3; exact h2
/-- Valid piles, with their sets as numbers without a sign. -/
def toPl (l : List Pr) : List Pl := l.map fun p => ⟨p.s.toNat, p.m⟩
theorem toPl_ok {need : List Int} {l : List Pr} (h : Vld need l) : okP need.length (toPl l) := by
  obtain ⟨h1, h2, h3, h4, h5⟩ := h
  refine ⟨by unfold toPl; rw [List.length_map]; exact h2, fun p hp => ?_⟩
  obtain ⟨q, hq, rfl⟩ := List.mem_map.1 hp
  have h6 := h4 q hq
  unfold okPr at h6
  have := pow_pos' need.length
  exact ⟨by dsimp only; omega, h6.2.1, h6.2.2⟩
theorem toPl_raw {need : List Int} {l : List Pr} (h : Vld need l) : rawV l = plV (toPl l) := by
  unfold rawV plV toPl
  rw [List.length_map, List.flatMap_map]
  congr 1
  have h4 := h.2.2.2.1
  revert h4
  generalize need.length = n
  intro h4
  clear h
  induction l with
  | nil => rfl
  | cons p l ih =>
    rw [List.flatMap_cons, List.flatMap_cons, ih (fun q hq => h4 q (by simp [hq]))]
    congr 1
    have h6 := (h4 p (by simp)).1.1
    unfold Pr.cells Pl.cells
    dsimp only
    rw [Int.toNat_of_nonneg h6]
def checkR (need : List Int) (l : List Pr) (b : Int) : Int := if Vld need l then (if 0 ≤ b ∧ b ≤ 1048576 then 0 else 2) else 1
/-- How many boxes, the set that proves it, and what is wrong. -/
def mostR (need : List Int) (l : List Pr) : Int × Int × Int :=
  if Vld need l then
    (if pfF need (toPl l) (quF need (toPl l) (allS need.length) + 1) (allS need.length) = 0 then (0, 0, 4)
     else (quF need (toPl l) (allS need.length), (pfF need (toPl l) (quF need (toPl l) (allS need.length) + 1) (allS need.length) : Int), 0))
  else (0, 0, 1)
def nBad (x : Int) : Bool := !(decide (0 ≤ x) && decide (x ≤ 48))
def pBad (n : Nat) (p : Pr) : Bool := !(decide (0 ≤ p.s) && decide (p.s ≤ ((2 ^ n : Nat) : Int) - 1)) || !(decide (0 ≤ p.m) && decide (p.m ≤ 1048576))
/-- The greatest of the first ones. -/
def mxF (v : List Int) : Nat → Int
  | 0 => v[0]?.getD 0
  | k + 1 => max (mxF v k) (v[k + 1]?.getD 0)
theorem take_nonneg {v : List Int} (h : okN v) (k : Nat) : 0 ≤ (v.take k).sum := by
  have gen : ∀ l : List Int, (∀ x ∈ l, 0 ≤ x) → 0 ≤ l.sum := by
    intro l
    induction l with
    | nil => intro _; simp
    | cons x l ih =>
      intro hx
      have := ih fun y hy => hx y (by simp [hy])
      have := hx x (by simp)
      simp only [List.sum_cons]
      omega
  exact gen _ fun x hx => (h x (List.mem_of_mem_take hx)).1
theorem mxF_pos {v : List Int} (h : okN v) : ∀ k, k < v.length → (0 < mxF v k ↔ 0 < (v.take (k + 1)).sum)
  | 0, hk => by
    rw [take_sum hk]
    simp [mxF, List.getElem?_eq_getElem hk]
  | k + 1, hk => by
    have ih := mxF_pos h k (by omega)
    have h1 := take_nonneg h (k + 1)
    have h2 := (h v[k + 1] (List.getElem_mem _)).1
    rw [take_sum hk]
    simp only [mxF, List.getElem?_eq_getElem hk, Option.getD_some]
    rcases Int.le_total (mxF v k) v[k + 1] with h3 | h3
    · rw [Int.max_eq_right h3]; omega
    · rw [Int.max_eq_left h3]; omega
theorem okN_any {v : List Int} : v.any nBad = false ↔ okN v := by
  rw [List.any_eq_false]
  constructor
  · intro h x hx
    have := h x hx
    unfold nBad at this
    simpa using this
  · intro h x hx
    have := h x hx
    unfold nBad
    simpa using this
theorem okPr_any {l : List Pr} {n : Nat} : l.any (pBad n) = false ↔ ∀ p ∈ l, okPr n p := by
  rw [List.any_eq_false]
  constructor
  · intro h x hx
    have := h x hx
    unfold pBad at this
    unfold okPr
    simpa using this
  · intro h x hx
    have := h x hx
    unfold okPr at this
    unfold pBad
    simpa using this
theorem vld_eq (need : List Int) (l : List Pr) : (((((decide (1 ≤ (need.length : Int)) && decide ((need.length : Int) ≤ 8)) && decide ((l.length : Int) ≤ 8)) && !(need.any nBad)) && !(l.any (pBad need.length))) && decide (0 < mxF need (need.length - 1))) = decide (Vld need l) := by
  rw [Bool.eq_iff_iff, decide_eq_true_iff (p := Vld need l)]
  unfold Vld
  simp only [Bool.and_eq_true, decide_eq_true_eq, Bool.not_eq_true', okN_any, okPr_any]
  constructor
  · rintro ⟨⟨⟨⟨⟨a, b⟩, c⟩, d⟩, e⟩, f⟩
    have g := (mxF_pos d (need.length - 1) (by omega)).1 f
    rw [show need.length - 1 + 1 = need.length by omega, List.take_length] at g
    exact ⟨⟨by omega, by omega⟩, by omega, d, e, g⟩
  · rintro ⟨⟨a, b⟩, c, d, e, f⟩
    refine ⟨⟨⟨⟨⟨by omega, by omega⟩, by omega⟩, d⟩, e⟩, (mxF_pos d (need.length - 1) (by omega)).2 ?_⟩
    rw [show need.length - 1 + 1 = need.length by omega, List.take_length]
    exact f
def lackR (need : List Int) (l : List Pr) (b : Int) : Int × Int × Int :=
  if checkR need l b = 0 then
    (if (lkF (timesV need b) (toPl l) (allS need.length)).2 = 0 then (0, 0, 4)
     else (((lkF (timesV need b) (toPl l) (allS need.length)).1 : Int), (lkF (timesV need b) (toPl l) (allS need.length)).2, 0))
  else (0, 0, checkR need l b)
theorem checkR_zero {need : List Int} {l : List Pr} {b : Int} (h : checkR need l b = 0) : Vld need l ∧ 0 ≤ b ∧ b ≤ 1048576 := by
  unfold checkR at h
  split at h
  · rename_i hV
    split at h
    · rename_i hb; exact ⟨hV, hb⟩
    · omega
  · omega
/-- What is needed, of which the first ones are multiplied. -/
def updL (need : List Int) (b : Int) (k : Nat) : List Int := (timesV need b).take k ++ need.drop k
theorem updL_length (need : List Int) (b : Int) (k : Nat) (h : k ≤ need.length) : (updL need b k).length = need.length := by
  unfold updL
  rw [List.length_append, List.length_take, List.length_drop, timesV_length]
  omega
theorem updL_get (need : List Int) (b : Int) (k : Nat) (h : k < need.length) : (updL need b k)[k]'(by rw [updL_length need b k (by omega)]; exact h) = need[k] := by
  unfold updL
  rw [List.getElem_append_right (by rw [List.length_take, timesV_length]; omega)]
  simp only [List.length_take, timesV_length, List.getElem_drop]
  congr 1
  omega
theorem updL_set (need : List Int) (b : Int) (k : Nat) (h : k < need.length) : (updL need b k).set k (need[k] * b) = updL need b (k + 1) := by
  unfold updL
  have hl : ((timesV need b).take k).length = k := by rw [List.length_take, timesV_length]; omega
  rw [List.set_append_right _ _ (by omega), hl, Nat.sub_self, timesV_get h, List.append_assoc]
  congr 1
  rw [List.drop_eq_getElem_cons h]
  rfl
theorem updL_full (need : List Int) (b : Int) : updL need b need.length = timesV need b := by
  unfold updL
  rw [List.drop_length, List.append_nil, List.take_of_length_le (by rw [timesV_length]; exact Nat.le_refl _)]
/-- The sets, as a slice. -/
def setsL (n : Nat) : List Nat := (List.range (allS n)).map (· + 1)
def sn (k : Nat) : List PV := [.int .i64 (k : Int)]
def setsV (n : Nat) : PV := .is ((setsL n).flatMap sn) (setsL n).length
theorem setsL_length (n : Nat) : (setsL n).length = allS n := by simp [setsL]
theorem setsL_get (n i : Nat) (h : i < (setsL n).length) : (setsL n)[i] = i + 1 := by simp [setsL]
end Go.Proofs.YtbnemnhmejmeeaaGreatDoor.Bx
end

section
set_option linter.unusedVariables false
set_option linter.unusedSimpArgs false
namespace Go.Proofs.YtbnemnhmejmeeaaGreatDoor.Bx
open Go.AF
variable {α : Type}
theorem sum_snoc {α : Type} (f : α → Int) (d : List α) (m : α) : ((d ++ [m]).map f).sum = (d.map f).sum + f m := by simp
theorem sum_erase {α : Type} (f : α → Int) : ∀ (r : List α) (j : Nat) (m : α), r[j]? = some m → (r.map f).sum = f m + ((r.eraseIdx j).map f).sum
  | [], j, m, h => by simp at h
  | x :: r, 0, m, h => by simp at h; subst h; simp
  | x :: r, j + 1, m, h => by
    have ih := sum_erase f r j m (by simpa using h)
    simp only [List.map_cons, List.sum_cons, List.eraseIdx_cons_succ, ih]
    omega
theorem sum_nonneg {α : Type} {f : α → Int} : ∀ {r : List α}, (∀ m ∈ r, 0 ≤ f m) → 0 ≤ (r.map f).sum
  | [], _ => by simp
  | x :: r, h => by
    have h1 := h x (by simp)
    have h2 := sum_nonneg (f := f) (r := r) (fun m hm => h m (by simp [hm]))
    simp only [List.map_cons, List.sum_cons]
    omega
theorem mget_mem {K α : Type} [DecidableEq K] {k : K} {v : α} : ∀ {ms : List (K × α)}, mget k ms = some v → (k, v) ∈ ms
  | [], h => by simp [mget] at h
  | m :: r, h => by
    simp only [mget] at h
    split at h
    · rename_i hk
      simp at h
      subst h; subst hk
      simp
    · exact List.mem_cons_of_mem _ (mget_mem h)
theorem mem_mset {K α : Type} [DecidableEq K] {k : K} {a : α} {x : K × α} : ∀ {ms : List (K × α)}, x ∈ mset k a ms → x = (k, a) ∨ x ∈ ms
  | [], h => by simp [mset] at h; exact .inl h
  | m :: r, h => by
    simp only [mset] at h
    split at h
    · rcases List.mem_cons.1 h with h | h
      · exact .inl h
      · exact .inr (List.mem_cons_of_mem _ h)
    · rcases List.mem_cons.1 h with h | h
      · exact .inr (by simp [h])
      · rcases mem_mset h with h | h
        · exact .inl h
        · exact .inr (List.mem_cons_of_mem _ h)

/-- What a walk over a map has behind it, and before it. -/
structure MG (β : Type) where
  d : List β
  r : List β
  last : Option β
def MG.ok {β : Type} (ms : List β) (g : MG β) : Prop := (∀ f : β → Int, (g.d.map f).sum + (g.r.map f).sum = (ms.map f).sum) ∧ (∀ m ∈ g.d, m ∈ ms) ∧ (∀ m ∈ g.r, m ∈ ms)
theorem MG.ok_next {β : Type} {ms d r : List β} {l : Option β} {j : Nat} {m : β} (h : MG.ok ms ⟨d, r, l⟩) (hj : r[j]? = some m) : MG.ok ms ⟨d ++ [m], r.eraseIdx j, some m⟩ := by
  obtain ⟨h1, h2, h3⟩ := h
  refine ⟨fun f => ?_, fun x hx => ?_, fun x hx => h3 x (List.mem_of_mem_eraseIdx hx)⟩
  · have := h1 f
    have e := sum_erase f r j m hj
    simp only at this ⊢
    rw [sum_snoc]
    omega
  · rcases List.mem_append.1 hx with hx | hx
    · exact h2 x hx
    · simp at hx; subst hx; exact h3 x (List.mem_of_getElem? hj)
abbrev Stk := List (Int × Int)
def stkStep (ms : Stk) (p : Pl) : Stk := mset (p.s : Int) ((mget (p.s : Int) ms).getD 0 + p.m) ms
/-- The stock of the first piles. -/
def stkM (l : List Pl) (i : Nat) : Stk := (l.take i).foldl stkStep []
theorem stkM_succ (l : List Pl) (i : Nat) (h : i < l.length) : stkM l (i + 1) = stkStep (stkM l i) l[i] := by
  unfold stkM
  rw [← List.take_append_getElem h, List.foldl_append]
  rfl
def stkV (ms : Stk) : PV := mapP (PV.int .i64) (PV.int .i64) ms
theorem mset_sum (g : Int → Int → Int) (h0 : ∀ k, g k 0 = 0) (ha : ∀ k a b, g k (a + b) = g k a + g k b) (k b : Int) : ∀ ms : Stk, ((mset k ((mget k ms).getD 0 + b) ms).map fun m => g m.1 m.2).sum = (ms.map fun m => g m.1 m.2).sum + g k b
  | [] => by simp [mset, mget]
  | m :: r => by
    have ih := mset_sum g h0 ha k b r
    simp only [mset, mget]
    split
    · rename_i e
      subst e
      simp only [Option.getD_some, List.map_cons, List.sum_cons, ha]
      omega
    · simp only [List.map_cons, List.sum_cons, ih]
      omega
/-- What an entry has for a set. -/
def ofE (s : Nat) (k m : Int) : Int := if k.toNat &&& s = 0 then 0 else m
theorem stkM_of (l : List Pl) (s : Nat) : ∀ i, i ≤ l.length → ((stkM l i).map fun m => ofE s m.1 m.2).sum = ofP (l.take i) s
  | 0, _ => by simp [stkM, ofP]
  | i + 1, hi => by
    have ih := stkM_of l s i (by omega)
    rw [stkM_succ l i hi, stkStep, mset_sum (ofE s) (fun k => by unfold ofE; split <;> rfl) (fun k a b => by unfold ofE; split <;> omega), ih, ofP_take hi]
    unfold ofE
    rw [Int.toNat_natCast]
/-- The keys are sets, the numbers are not below 0. -/
def okM (n : Nat) (ms : Stk) : Prop := ∀ m ∈ ms, (0 ≤ m.1 ∧ m.1.toNat < 2 ^ n) ∧ 0 ≤ m.2
theorem stkM_B {n : Nat} {l : List Pl} (h : okP n l) : ∀ i, i ≤ l.length → ∀ m ∈ stkM l i, ((0 ≤ m.1 ∧ m.1.toNat < 2 ^ n) ∧ 0 ≤ m.2) ∧ m.2 ≤ 1048576 * (i : Int)
  | 0, _ => fun m hm => by simp [stkM] at hm
  | i + 1, hi => by
    intro m hm
    have ih := stkM_B h i (by omega)
    have hp := h.2 l[i] (List.getElem_mem _)
    rw [stkM_succ l i hi, stkStep] at hm
    rcases mem_mset hm with e | hm
    · subst e
      dsimp only
      rw [Int.toNat_natCast]
      cases e : mget (l[i].s : Int) (stkM l i) with
      | none =>
        rw [Option.getD_none]
        have : (0 : Int) ≤ i := by omega
        refine ⟨⟨⟨by omega, hp.1⟩, by omega⟩, by omega⟩
      | some v =>
        have := ih _ (mget_mem e)
        rw [Option.getD_some]
        dsimp only at this
        refine ⟨⟨⟨by omega, hp.1⟩, by omega⟩, by omega⟩
    · have := ih m hm
      exact ⟨this.1, by omega⟩
theorem stkM_get {n : Nat} {l : List Pl} (h : okP n l) (k : Int) (i : Nat) (hi : i ≤ l.length) : 0 ≤ (mget k (stkM l i)).getD 0 ∧ (mget k (stkM l i)).getD 0 ≤ 8388608 := by
  have := h.1
  cases e : mget k (stkM l i) with
  | none => rw [Option.getD_none]; omega
  | some v =>
    have := stkM_B h i hi _ (mget_mem e)
    rw [Option.getD_some]
    dsimp only at this
    omega
theorem stkM_ok {n : Nat} {l : List Pl} (h : okP n l) : okM n (stkM l l.length) := fun m hm => (stkM_B h _ (Nat.le_refl _) m hm).1
theorem stkM_ofP (l : List Pl) (s : Nat) : ((stkM l l.length).map fun m => ofE s m.1 m.2).sum = ofP l s := by
  rw [stkM_of l s _ (Nat.le_refl _), List.take_length]
end Go.Proofs.YtbnemnhmejmeeaaGreatDoor.Bx
end

section
set_option linter.unusedVariables false
set_option linter.unusedSimpArgs false
namespace Go.Proofs.YtbnemnhmejmeeaaGreatDoor.Bx
theorem allS_bit (n i : Nat) (h : i < n) : (allS n).testBit i = true := by
  unfold allS
  rw [Nat.testBit_two_pow_sub_one]
  simpa using h
end Go.Proofs.YtbnemnhmejmeeaaGreatDoor.Bx
end

section
set_option linter.unusedVariables false
set_option linter.unusedSimpArgs false
namespace Go.Proofs.YtbnemnhmejmeeaaGreatDoor.Bx
open Go.AF

/-- How many pencils of a pile are sold as shade j, as far as sets up to some number tell. -/
def nF (v : List Int) (q : Nat) (m : Int) (rest : List Pl) (j : Nat) : Nat → Int
  | 0 => min m (v[j]?.getD 0)
  | k + 1 => if (k + 1).testBit j = false ∧ ¬ (k + 1) &&& q = 0 then min (nF v q m rest j k) (m + ofP rest (k + 1) - sumS v (k + 1)) else nF v q m rest j k
theorem nF_spec (v : List Int) (q : Nat) (m : Int) (rest : List Pl) (j : Nat) : ∀ K, (nF v q m rest j K ≤ m ∧ nF v q m rest j K ≤ v[j]?.getD 0 ∧ ∀ s, 1 ≤ s → s ≤ K → s.testBit j = false → ¬ s &&& q = 0 → nF v q m rest j K ≤ m + ofP rest s - sumS v s) ∧
    (nF v q m rest j K = m ∨ nF v q m rest j K = v[j]?.getD 0 ∨ ∃ s, 1 ≤ s ∧ s ≤ K ∧ s.testBit j = false ∧ ¬ s &&& q = 0 ∧ nF v q m rest j K = m + ofP rest s - sumS v s)
  | 0 => by
    refine ⟨⟨by simp only [nF]; omega, by simp only [nF]; omega, fun s h1 h2 => by omega⟩, ?_⟩
    simp only [nF]
    omega
  | k + 1 => by
    obtain ⟨⟨h1, h2, h3⟩, h4⟩ := nF_spec v q m rest j k
    by_cases hc : (k + 1).testBit j = false ∧ ¬ (k + 1) &&& q = 0
    · simp only [nF, if_pos hc]
      refine ⟨⟨by omega, by omega, fun s a b c d => ?_⟩, ?_⟩
      · by_cases e : s = k + 1
        · subst e; omega
        · have := h3 s a (by omega) c d; omega
      · by_cases hlt : nF v q m rest j k ≤ m + ofP rest (k + 1) - sumS v (k + 1)
        · have e : min (nF v q m rest j k) (m + ofP rest (k + 1) - sumS v (k + 1)) = nF v q m rest j k := by omega
          rw [e]
          rcases h4 with h | h | ⟨s, a, b, c⟩
          · exact .inl h
          · exact .inr (.inl h)
          · exact .inr (.inr ⟨s, a, by omega, c⟩)
        · exact .inr (.inr ⟨k + 1, by omega, by omega, hc.1, hc.2, by omega⟩)
    · simp only [nF, if_neg hc]
      refine ⟨⟨h1, h2, fun s a b c d => ?_⟩, ?_⟩
      · by_cases e : s = k + 1
        · subst e; exact absurd ⟨c, d⟩ hc
        · exact h3 s a (by omega) c d
      · rcases h4 with h | h | ⟨s, a, b, c⟩
        · exact .inl h
        · exact .inr (.inl h)
        · exact .inr (.inr ⟨s, a, by omega, c⟩)

/-- What is left, as which shades the pile may still be sold, how much of it there is, what was sold. -/
structure FSt where
  v : List Int
  q : Nat
  m : Int
  row : List Int
def fStep (rest : List Pl) (L j : Nat) (t : FSt) : FSt :=
  if t.q.testBit j then ⟨lessV t.v j (nF t.v (dropB t.q j) t.m rest j (allS L)), dropB t.q j, t.m - nF t.v (dropB t.q j) t.m rest j (allS L), t.row.set j (nF t.v (dropB t.q j) t.m rest j (allS L))⟩ else t
def fRun (rest : List Pl) (L : Nat) (t : FSt) : Nat → FSt
  | 0 => t
  | k + 1 => fStep rest L k (fRun rest L t k)

structure FInv (rest : List Pl) (L : Nat) (t : FSt) : Prop where
  len : t.v.length = L
  rlen : t.row.length = L
  pos : ∀ x ∈ t.v, 0 ≤ x ∧ x ≤ 1000000000000
  m0 : 0 ≤ t.m ∧ t.m ≤ 1048576
  q : t.q < 2 ^ L
  row : ∀ x ∈ t.row, 0 ≤ x ∧ x ≤ 1048576
  H : ∀ s, sumS t.v s ≤ (if t.q &&& s = 0 then 0 else t.m) + ofP rest s

theorem and_all {q L s : Nat} (h : q < 2 ^ L) : q &&& (s &&& allS L) = q &&& s := by
  apply Nat.eq_of_testBit_eq
  intro i
  simp only [Nat.testBit_and]
  by_cases hi : i < L
  · rw [allS_bit L i hi, Bool.and_true]
  · have : q.testBit i = false := Nat.testBit_lt_two_pow (Nat.lt_of_lt_of_le h (Nat.pow_le_pow_right (by omega) (by omega)))
    simp [this]
theorem sumS_allS (v : List Int) (s : Nat) : sumS v (s &&& allS v.length) = sumS v s := by
  unfold sumS
  exact isum_congr _ fun i hi => by rw [Nat.testBit_and, allS_bit _ i hi, Bool.and_true]
theorem le_allS (s L : Nat) : s &&& allS L ≤ allS L := Nat.and_le_right
theorem dropB_lt {q j L : Nat} (h : q < 2 ^ L) : dropB q j < 2 ^ L := by
  have : dropB q j ≤ q := by rw [← dropB_part q j]; exact Nat.and_le_right
  omega
theorem dropB_bit (q j : Nat) : (dropB q j).testBit j = false := by rw [testBit_dropB]; simp
theorem dropB_or {q j : Nat} (h : q.testBit j = true) : dropB q j ||| 2 ^ j = q := by
  apply Nat.eq_of_testBit_eq
  intro i
  rw [Nat.testBit_or, testBit_dropB, Nat.testBit_two_pow]
  by_cases e : j = i
  · subst e; simp [h]
  · have e2 : ¬ i = j := fun x => e x.symm
    simp [e, e2]
theorem dropB_meet {q j s : Nat} (h : s.testBit j = false) : q &&& s = 0 ↔ dropB q j &&& s = 0 := by
  rw [and_zero_iff, and_zero_iff]
  constructor
  · intro h1 i ⟨h2, h3⟩
    rw [testBit_dropB] at h2
    simp at h2
    exact h1 i ⟨h2.1, h3⟩
  · intro h1 i ⟨h2, h3⟩
    by_cases e : i = j
    · subst e; rw [h] at h3; cases h3
    · exact h1 i ⟨by rw [testBit_dropB]; simp [h2, e], h3⟩
theorem ofP_le {l : List Pl} (hl : posP l) {s t : Nat} (h : s &&& t = s) : ofP l s ≤ ofP l t := by
  have := ofP_part hl s t
  rw [h] at this; exact this
theorem lessV_get (v : List Int) (j : Nat) (n : Int) (i : Nat) : (lessV v j n)[i]?.getD 0 = if i = j ∧ j < v.length then v[j]?.getD 0 - n else v[i]?.getD 0 := by
  unfold lessV
  rw [List.getElem?_set]
  by_cases e : j = i
  · subst e
    by_cases h : j < v.length
    · simp [h]
    · simp [h]
  · simp [e, Ne.symm e]

section
variable {rest : List Pl} {L j : Nat} {t : FSt}
theorem nF_nonneg (hr : posP rest) (h : FInv rest L t) (hj : j < L) (hq : t.q.testBit j = true) : 0 ≤ nF t.v (dropB t.q j) t.m rest j (allS L) := by
  obtain ⟨_, h2⟩ := nF_spec t.v (dropB t.q j) t.m rest j (allS L)
  rcases h2 with h2 | h2 | ⟨s, h3, h4, h5, h6, h7⟩
  · rw [h2]; exact h.m0.1
  · rw [h2]
    have hlt : j < t.v.length := by rw [h.len]; exact hj
    rw [List.getElem?_eq_getElem hlt]
    exact (h.pos _ (List.getElem_mem _)).1
  · rw [h7]
    have := h.H s
    have hm := h.m0
    split at this <;> omega
theorem fStep_inv (hr : posP rest) (h : FInv rest L t) (hj : j < L) : FInv rest L (fStep rest L j t) := by
  unfold fStep
  split
  · rename_i hq
    have h0 := nF_nonneg hr h hj hq
    obtain ⟨⟨h1, h2, h3⟩, h4⟩ := nF_spec t.v (dropB t.q j) t.m rest j (allS L)
    generalize nF t.v (dropB t.q j) t.m rest j (allS L) = n at h0 h1 h2 h3 h4 ⊢
    have hlt : j < t.v.length := by rw [h.len]; exact hj
    have hvj := h.pos t.v[j] (List.getElem_mem _)
    rw [List.getElem?_eq_getElem hlt] at h2
    simp at h2
    refine ⟨by simp [lessV_length, h.len], by simp [h.rlen], fun x hx => ?_, by have := h.m0; show 0 ≤ t.m - n ∧ t.m - n ≤ 1048576; omega, dropB_lt h.q, fun x hx => ?_, ?_⟩
    · simp only [lessV] at hx
      rcases List.mem_or_eq_of_mem_set hx with h5 | rfl
      · exact h.pos x h5
      · rw [List.getElem?_eq_getElem hlt]; simp; omega
    · rcases List.mem_or_eq_of_mem_set hx with h5 | rfl
      · exact h.row x h5
      · have := h.m0; omega
    · show ∀ s, sumS (lessV t.v j n) s ≤ (if dropB t.q j &&& s = 0 then 0 else t.m - n) + ofP rest s
      refine greedy hlt (dropB_bit _ _) hr h1 (fun s => ?_) (fun s hs => ?_) ?_
      · rw [dropB_or hq]; exact h.H s
      · by_cases hz : dropB t.q j &&& s = 0
        · rw [if_pos hz]
          have := h.H s
          rw [if_pos ((dropB_meet hs).2 hz)] at this
          exact this
        · rw [if_neg hz]
          have hz2 : ¬ (s &&& allS L) &&& dropB t.q j = 0 := by rw [Nat.and_comm, and_all (dropB_lt h.q)]; exact hz
          have h1s : 1 ≤ s &&& allS L := by
            rcases Nat.eq_zero_or_pos (s &&& allS L) with e | e
            · rw [e] at hz2; simp at hz2
            · exact e
          have := h3 (s &&& allS L) h1s (le_allS _ _) (by rw [Nat.testBit_and, hs]; rfl) hz2
          rw [← h.len, sumS_allS] at this
          have h6 := ofP_le hr (s := s &&& allS t.v.length) (t := s) (by rw [Nat.and_comm, ← Nat.and_assoc, Nat.and_self])
          omega
      · rcases h4 with e | e | ⟨s, h5, h6, h7, h8, h9⟩
        · exact .inl e
        · exact .inr (.inl e)
        · exact .inr (.inr ⟨s, h7, by rw [Nat.and_comm]; exact h8, by omega⟩)
  · exact h
theorem fRun_inv (hr : posP rest) (h : FInv rest L t) : ∀ k, k ≤ L → FInv rest L (fRun rest L t k)
  | 0, _ => h
  | k + 1, hk => fStep_inv hr (fRun_inv hr h k (by omega)) (by omega)

/-- Of the shades that are not this one, all must still be there. -/
def ownB (L : Nat) (v : List Int) (q : Nat) (m : Int) (rest : List Pl) (j : Nat) (i : Nat) : Bool := decide ((lkF (v.set j 0) (⟨q, m - (i : Int)⟩ :: rest) (allS L)).2 = 0)
theorem sumS_out {v : List Int} {j : Nat} (hj : j < v.length) (s : Nat) : sumS (v.set j 0) s = sumS v (dropB s j) := by
  have e : v.set j 0 = lessV v j (v[j]?.getD 0) := by simp [lessV]
  rw [e, sumS_less hj]
  cases hs : s.testBit j with
  | true => rw [sumS_drop hj hs]; simp
  | false =>
    have : dropB s j = s := by simp [dropB, hs]
    rw [this]; simp
theorem ownB_iff (hr : posP rest) (h : FInv rest L t) (hj : j < L) (hq : t.q.testBit j = true) {i : Nat} (hi : (i : Int) ≤ min t.m (t.v[j]?.getD 0)) : ownB L t.v (dropB t.q j) t.m rest j i = true ↔ (i : Int) ≤ nF t.v (dropB t.q j) t.m rest j (allS L) := by
  have hlt : j < t.v.length := by rw [h.len]; exact hj
  obtain ⟨⟨h1, h2, h3⟩, h4⟩ := nF_spec t.v (dropB t.q j) t.m rest j (allS L)
  have hpos : posP (⟨dropB t.q j, t.m - (i : Int)⟩ :: rest) := fun p hp => by
    rcases List.mem_cons.1 hp with rfl | hp
    · show 0 ≤ t.m - (i : Int); omega
    · exact hr p hp
  unfold ownB
  rw [decide_eq_true_eq, lkF_zero]
  constructor
  · intro hc
    rcases h4 with e | e | ⟨s, h5, h6, h7, h8, h9⟩
    · omega
    · omega
    · have := hc s h5 h6
      rw [sumS_out hlt, ofP_cons] at this
      have e1 : dropB s j = s := by simp [dropB, h7]
      rw [e1] at this
      have hz : ¬ dropB t.q j &&& s = 0 := by rw [Nat.and_comm]; exact h8
      simp only [if_neg hz] at this
      omega
  · intro hn s hs1 hs2
    rw [sumS_out hlt, ofP_cons]
    have hd := dropB_part s j
    have hdb := dropB_bit s j
    have hrest := ofP_le hr hd
    by_cases hz : dropB t.q j &&& dropB s j = 0
    · have := h.H (dropB s j)
      rw [if_pos ((dropB_meet hdb).2 hz)] at this
      have h5 : 0 ≤ (if dropB t.q j &&& s = 0 then (0 : Int) else t.m - (i : Int)) := by split <;> omega
      show _ ≤ (if dropB t.q j &&& s = 0 then (0 : Int) else t.m - (i : Int)) + _
      omega
    · have hzs : ¬ dropB t.q j &&& s = 0 := fun e => hz (by
        rw [and_zero_iff] at e ⊢
        rintro x ⟨hx1, hx2⟩
        rw [testBit_dropB] at hx2
        simp at hx2
        exact e x ⟨hx1, hx2.1⟩)
      have hle : dropB s j ≤ s := by have := @Nat.and_le_right (dropB s j) s; rw [hd] at this; exact this
      have h1s : 1 ≤ dropB s j := by
        rcases Nat.eq_zero_or_pos (dropB s j) with e | e
        · rw [e] at hz; simp at hz
        · exact e
      have := h3 (dropB s j) h1s (by omega) hdb (by rw [Nat.and_comm]; exact hz)
      show _ ≤ (if dropB t.q j &&& s = 0 then (0 : Int) else t.m - (i : Int)) + _
      rw [if_neg hzs]
      omega
/-- What the search finds. -/
theorem own_cut (hr : posP rest) (h : FInv rest L t) (hj : j < L) (hq : t.q.testBit j = true) : ∃ n r : Nat, min t.m (t.v[j]?.getD 0) = (n : Int) ∧ n ≤ 8388608 ∧ nF t.v (dropB t.q j) t.m rest j (allS L) = (r : Int) ∧ r ≤ n ∧ (∀ i, i < r → ownB L t.v (dropB t.q j) t.m rest j (i + 1) = true) ∧ ∀ i, r ≤ i → i < n → ownB L t.v (dropB t.q j) t.m rest j (i + 1) = false := by
  have hlt : j < t.v.length := by rw [h.len]; exact hj
  have hvj := h.pos t.v[j] (List.getElem_mem _)
  have e1 : t.v[j]?.getD 0 = t.v[j] := by simp [hlt]
  have hm := h.m0
  have h0 := nF_nonneg hr h hj hq
  obtain ⟨⟨h1, h2, h3⟩, h4⟩ := nF_spec t.v (dropB t.q j) t.m rest j (allS L)
  refine ⟨(min t.m (t.v[j]?.getD 0)).toNat, (nF t.v (dropB t.q j) t.m rest j (allS L)).toNat, by omega, by omega, by omega, by omega, fun i hi => ?_, fun i hi hn => ?_⟩
  · exact (ownB_iff hr h hj hq (by omega)).2 (by omega)
  · cases e : ownB L t.v (dropB t.q j) t.m rest j (i + 1) with
    | false => rfl
    | true => have := (ownB_iff hr h hj hq (by omega)).1 e; omega
end

/-! ### All piles -/
def pileF (l : List Pl) (L : Nat) (v : List Int) (i : Nat) : FSt := fRun (l.drop (i + 1)) L ⟨v, (l[i]?.getD ⟨0, 0⟩).s, (l[i]?.getD ⟨0, 0⟩).m, List.replicate L 0⟩ L
def leftF (l : List Pl) (L : Nat) (v : List Int) : Nat → List Int
  | 0 => v
  | i + 1 => (pileF l L (leftF l L v i) i).v
def rowF (l : List Pl) (L : Nat) (v : List Int) (i : Nat) : List Int := (pileF l L (leftF l L v i) i).row
def rowsF (l : List Pl) (L : Nat) (v : List Int) (k : Nat) : List (List Int) := (List.range k).map (rowF l L v)
theorem rowsF_succ (l : List Pl) (L : Nat) (v : List Int) (k : Nat) : rowsF l L v (k + 1) = rowsF l L v k ++ [rowF l L v k] := by simp [rowsF, List.range_succ]
theorem posP_drop {l : List Pl} (h : posP l) (i : Nat) : posP (l.drop i) := fun p hp => h p (List.mem_of_mem_drop hp)

/-- The state before each pile. -/
structure LInv (l : List Pl) (L : Nat) (v : List Int) : Prop where
  len : v.length = L
  pos : ∀ x ∈ v, 0 ≤ x ∧ x ≤ 1000000000000
  H : ∀ s, sumS v s ≤ ofP l s
theorem LInv.start {l : List Pl} {L i : Nat} {v : List Int} (hl : okP L l) (hi : i < l.length) (h : LInv (l.drop i) L v) : FInv (l.drop (i + 1)) L ⟨v, (l[i]?.getD ⟨0, 0⟩).s, (l[i]?.getD ⟨0, 0⟩).m, List.replicate L 0⟩ := by
  have e : l[i]?.getD ⟨0, 0⟩ = l[i] := by simp [hi]
  have hp := hl.2 l[i] (List.getElem_mem _)
  rw [e]
  refine ⟨h.len, by simp, h.pos, ⟨hp.2.1, hp.2.2⟩, hp.1, fun x hx => by simp at hx; omega, fun s => ?_⟩
  have := h.H s
  rw [List.drop_eq_getElem_cons hi, ofP_cons] at this
  exact this
theorem FInv.next {l : List Pl} {L i : Nat} {t : FSt} (h : FInv (l.drop (i + 1)) L t) (hq : t.q = 0) : LInv (l.drop (i + 1)) L t.v :=
  ⟨h.len, h.pos, fun s => by have := h.H s; rw [hq] at this; simpa using this⟩
theorem fRun_q (rest : List Pl) (L : Nat) (t : FSt) : ∀ k, ∀ i, i < k → (fRun rest L t k).q.testBit i = false
  | 0, i, h => by omega
  | k + 1, i, h => by
    simp only [fRun, fStep]
    by_cases e : i = k
    · subst e
      split
      · exact dropB_bit _ _
      · rename_i hq; simpa using hq
    · have := fRun_q rest L t k i (by omega)
      split
      · show (dropB _ _).testBit i = false
        rw [testBit_dropB, this]; rfl
      · exact this
theorem fRun_end {rest : List Pl} {L : Nat} {t : FSt} (h : FInv rest L (fRun rest L t L)) : (fRun rest L t L).q = 0 := by
  apply Nat.eq_of_testBit_eq
  intro i
  rw [Nat.zero_testBit]
  by_cases hi : i < L
  · exact fRun_q rest L t L i hi
  · exact Nat.testBit_lt_two_pow (Nat.lt_of_lt_of_le h.q (Nat.pow_le_pow_right (by omega) (by omega)))
theorem pileF_inv {l : List Pl} {L i : Nat} {v : List Int} (hl : okP L l) (hi : i < l.length) (h : LInv (l.drop i) L v) : FInv (l.drop (i + 1)) L (pileF l L v i) ∧ LInv (l.drop (i + 1)) L (pileF l L v i).v := by
  have h1 := fRun_inv (posP_drop hl.pos (i + 1)) (LInv.start hl hi h) L (Nat.le_refl _)
  exact ⟨h1, h1.next (fRun_end h1)⟩
theorem leftF_inv {l : List Pl} {L : Nat} {v : List Int} (hl : okP L l) (h : LInv l L v) : ∀ i, i ≤ l.length → LInv (l.drop i) L (leftF l L v i)
  | 0, _ => by show LInv (l.drop 0) L v; rw [List.drop_zero]; exact h
  | i + 1, hi => (pileF_inv hl (by omega) (leftF_inv hl h i (by omega))).2

/-- As many as the other piles lack. -/
def needF (v : List Int) (l : List Pl) (k L : Nat) : Int := (lkF v (l.take k ++ l.drop (k + 1)) (allS L)).2
def spareB (v : List Int) (l : List Pl) (k L i : Nat) : Bool := decide ((lkF v (l.set k ⟨(l[k]?.getD ⟨0, 0⟩).s, (l[k]?.getD ⟨0, 0⟩).m - (i : Int)⟩) (allS L)).2 = 0)
/-! ### Answers -/
/-- How boxes are filled, and what is wrong. -/
def fillR (need : List Int) (l : List Pr) (b : Int) : List (List Int) × Int :=
  if checkR need l b = 0 then
    (if (lkF (timesV need b) (toPl l) (allS need.length)).2 = 0 then (rowsF (toPl l) need.length (timesV need b) (toPl l).length, 0) else ([], 10))
  else ([], checkR need l b)
def useR (need : List Int) (l : List Pr) (b k : Int) : Int × Int × Int :=
  if checkR need l b = 0 then
    (if 0 ≤ k ∧ k ≤ ((toPl l).length : Int) - 1 then
      (if (lkF (timesV need b) (toPl l) (allS need.length)).2 = 0 then (needF (timesV need b) (toPl l) k.toNat need.length, min ((toPl l)[k.toNat]?.getD ⟨0, 0⟩).m (sumS (timesV need b) ((toPl l)[k.toNat]?.getD ⟨0, 0⟩).s), 0)
      else (0, 0, 10))
    else (0, 0, 2))
  else (0, 0, checkR need l b)

theorem xor_pow {q j : Nat} (h : q.testBit j = true) : q ^^^ (q &&& 1 * 2 ^ j) = dropB q j := by
  rw [Nat.one_mul]
  apply Nat.eq_of_testBit_eq
  intro i
  rw [Nat.testBit_xor, Nat.testBit_and, Nat.testBit_two_pow, testBit_dropB]
  by_cases e : j = i
  · subst e; simp [h]
  · have e2 : ¬ i = j := fun x => e x.symm
    simp [e, e2]
/-- Between two shades of a pile. -/
def midF (l : List Pl) (L : Nat) (v : List Int) (i k : Nat) : FSt := fRun (l.drop (i + 1)) L ⟨leftF l L v i, (l[i]?.getD ⟨0, 0⟩).s, (l[i]?.getD ⟨0, 0⟩).m, List.replicate L 0⟩ k
theorem midF_inv {l : List Pl} {L i : Nat} {v : List Int} (hl : okP L l) (h : LInv l L v) (hi : i < l.length) (k : Nat) (hk : k ≤ L) : FInv (l.drop (i + 1)) L (midF l L v i k) :=
  fRun_inv (posP_drop hl.pos _) (LInv.start hl hi (leftF_inv hl h i (by omega))) k hk
def numF (l : List Pl) (L : Nat) (v : List Int) (i k g : Nat) : Int := nF (midF l L v i k).v (dropB (midF l L v i k).q k) (midF l L v i k).m (l.drop (i + 1)) k g
theorem midF_yes {l : List Pl} {L i k : Nat} {v : List Int} (hq : (midF l L v i k).q.testBit k = true) : midF l L v i (k + 1) = ⟨lessV (midF l L v i k).v k (numF l L v i k (allS L)), dropB (midF l L v i k).q k, (midF l L v i k).m - numF l L v i k (allS L), (midF l L v i k).row.set k (numF l L v i k (allS L))⟩ := by
  show fStep _ _ _ (midF l L v i k) = _
  unfold fStep
  rw [if_pos hq]; rfl
theorem midF_no {l : List Pl} {L i k : Nat} {v : List Int} (hq : (midF l L v i k).q.testBit k = false) : midF l L v i (k + 1) = midF l L v i k := by
  show fStep _ _ _ (midF l L v i k) = _
  unfold fStep
  rw [if_neg (by rw [hq]; decide)]
theorem FInv.okV {rest : List Pl} {L : Nat} {t : FSt} (h : FInv rest L t) (h8 : L ≤ 8) : okV t.v := ⟨by rw [h.len]; exact h8, h.pos⟩
theorem LInv.ok {need : List Int} {l : List Pl} {b : Int} (hl : okP need.length l) (hn : okN need) (h8 : need.length ≤ 8) (b0 : 0 ≤ b) (b1 : b ≤ 10000000000) (h : (lkF (timesV need b) l (allS need.length)).2 = 0) : LInv l need.length (timesV need b) :=
  ⟨timesV_length _ _, (timesV_ok hn h8 b0 b1).2, by
    have := (hall_iff (v := timesV need b) hl.pos (fun p hp => by rw [timesV_length]; exact (hl.2 p hp).1)).1 (by rw [timesV_length]; exact h)
    exact this⟩
theorem okP_drop {n : Nat} {l : List Pl} (h : okP n l) (i : Nat) : okP n (l.drop i) := ⟨by have := h.1; simp; omega, fun p hp => h.2 p (List.mem_of_mem_drop hp)⟩
def rowC (L : Nat) (r : List Int) : List PV := [.is (r.flatMap i1) L]
def rowsV (L : Nat) (rs : List (List Int)) : PV := .is (rs.flatMap (rowC L)) rs.length
theorem flat_cut {α : Type} {f : α → List PV} {c : Nat} (hf : ∀ x, (f x).length = c) : ∀ (xs : List α) (n : Nat), (xs.flatMap f).drop (n * c) = (xs.drop n).flatMap f
  | xs, 0 => by simp
  | [], n + 1 => by simp
  | x :: xs, n + 1 => by
    rw [List.flatMap_cons, List.drop_succ_cons, ← flat_cut hf xs n, show (n + 1) * c = (f x).length + n * c by rw [hf, Nat.succ_mul, Nat.add_comm], List.drop_append]
    simp [hf]
theorem plDrop (l : List Pl) (n : Nat) : ((l.flatMap Pl.cells).drop (n * 2)).take ((l.length - n) * 2) = (l.drop n).flatMap Pl.cells := by
  rw [flat_cut (c := 2) (fun _ => rfl)]
  apply List.take_of_length_le
  rw [flat_len (c := 2) (fun _ => rfl), List.length_drop]
  exact Nat.le_refl _
theorem midF_0 {l : List Pl} {L i : Nat} {v : List Int} (hi : i < l.length) : midF l L v i 0 = ⟨leftF l L v i, l[i].s, l[i].m, List.replicate L 0⟩ := by
  simp [midF, fRun, hi]
theorem rowsF_length (l : List Pl) (L : Nat) (v : List Int) (k : Nat) : (rowsF l L v k).length = k := by simp [rowsF]
/-- The other piles. -/
def erP (l : List Pl) (k : Nat) : List Pl := l.take k ++ l.drop (k + 1)
theorem onePl (l : List Pl) : (((l.flatMap Pl.cells).map V.p).all oneV) = true := by
  simp only [List.all_map, List.all_flatMap, List.all_eq_true]
  intro s _ x hx
  simp [Pl.cells] at hx
  rcases hx with rfl | rfl <;> rfl
theorem scPl (l : List Pl) : scL (l.flatMap Pl.cells) = true := by
  induction l with
  | nil => rfl
  | cons x r ih => exact ih

/-! ### The table of what is sold -/
def rowP (r : List Int) : List Int := r ++ List.replicate (8 - r.length) 0
def soldS (rs : List (List Int)) : List Int := rs.flatMap rowP ++ List.replicate (8 * (8 - rs.length)) 0
def soldM (rs : List (List Int)) (r : List Int) : List Int := rs.flatMap rowP ++ (rowP r ++ List.replicate (8 * (7 - rs.length)) 0)
theorem rowP_len {r : List Int} (h : r.length ≤ 8) : (rowP r).length = 8 := by simp [rowP]; omega
theorem rowsP_len {rs : List (List Int)} (h : ∀ r ∈ rs, r.length ≤ 8) : (rs.flatMap rowP).length = rs.length * 8 := by
  induction rs with
  | nil => rfl
  | cons r rs ih =>
    rw [List.flatMap_cons, List.length_append, rowP_len (h r (by simp)), ih (fun x hx => h x (by simp [hx])), List.length_cons]
    omega
theorem soldM_open {rs : List (List Int)} {L : Nat} (h : rs.length < 8) (hL : L ≤ 8) : soldM rs (List.replicate L 0) = soldS rs := by
  unfold soldM soldS rowP
  rw [List.length_replicate, List.replicate_append_replicate, List.replicate_append_replicate]
  congr 2
  omega
theorem soldM_close (rs : List (List Int)) (r : List Int) : soldM rs r = soldS (rs ++ [r]) := by
  unfold soldM soldS
  rw [List.flatMap_append, List.length_append, List.append_assoc]
  simp only [List.flatMap_cons, List.flatMap_nil, List.append_nil, List.length_cons, List.length_nil]
  congr 3
  omega
theorem soldM_len {rs : List (List Int)} {r : List Int} (h : ∀ x ∈ rs, x.length ≤ 8) (hr : r.length ≤ 8) (h8 : rs.length < 8) : (soldM rs r).length = 64 := by
  unfold soldM
  rw [List.length_append, List.length_append, rowsP_len h, rowP_len hr, List.length_replicate]
  omega
theorem soldM_set {rs : List (List Int)} {r : List Int} {k : Nat} {n : Int} (h : ∀ x ∈ rs, x.length ≤ 8) (hr : r.length ≤ 8) (hk : k < r.length) : (soldM rs r).set (rs.length * 8 + k) n = soldM rs (r.set k n) := by
  unfold soldM
  have e1 := rowsP_len h
  rw [List.set_append_right _ _ (by omega), show rs.length * 8 + k - (rs.flatMap rowP).length = k by omega, List.set_append_left _ _ (by rw [rowP_len hr]; omega)]
  congr 2
  unfold rowP
  rw [List.set_append_left _ _ hk, List.length_set]
theorem soldS_row {rs : List (List Int)} {L i : Nat} (h : ∀ x ∈ rs, x.length = L) (hL : L ≤ 8) (hi : i < rs.length) : ((soldS rs).drop (i * 8)).take L = rs[i] := by
  unfold soldS
  have h8 : ∀ x ∈ rs, x.length ≤ 8 := fun x hx => by rw [h x hx]; exact hL
  have e : rs = rs.take i ++ rs[i] :: rs.drop (i + 1) := by rw [List.getElem_cons_drop, List.take_append_drop]
  have e2 : rs.flatMap rowP = (rs.take i).flatMap rowP ++ (rowP rs[i] ++ (rs.drop (i + 1)).flatMap rowP) := by
    conv => lhs; rw [e]
    rw [List.flatMap_append, List.flatMap_cons]
  have e3 : ((rs.take i).flatMap rowP).length = i * 8 := by
    rw [rowsP_len (fun x hx => h8 x (List.mem_of_mem_take hx)), List.length_take, Nat.min_eq_left (by omega)]
  rw [e2, List.append_assoc, List.drop_append_of_le_length (by omega), List.drop_of_length_le (by omega), List.nil_append]
  unfold rowP
  rw [List.append_assoc, List.append_assoc, List.take_append_of_le_length (by rw [h _ (List.getElem_mem _)]; exact Nat.le_refl _), List.take_of_length_le (by rw [h _ (List.getElem_mem _)]; exact Nat.le_refl _)]
theorem flat_take {α : Type} {f : α → List PV} {c : Nat} (hf : ∀ x, (f x).length = c) : ∀ (xs : List α) (n : Nat), (xs.flatMap f).take (n * c) = (xs.take n).flatMap f
  | xs, 0 => by simp
  | [], n + 1 => by simp
  | x :: xs, n + 1 => by
    rw [List.flatMap_cons, List.take_succ_cons, List.flatMap_cons, ← flat_take hf xs n, show (n + 1) * c = (f x).length + n * c by rw [hf, Nat.succ_mul, Nat.add_comm], List.take_append]
    rw [List.take_of_length_le (by omega)]
    congr 1
    congr 1
    omega
theorem soldS_cut {rs : List (List Int)} {L i : Nat} (h : ∀ x ∈ rs, x.length = L) (hL : L ≤ 8) (hi : i < rs.length) : (((soldS rs).flatMap i1).drop (0 + i * 8 + 0 * 1)).take ((L - 0) * 1) = rs[i].flatMap i1 := by
  rw [show 0 + i * 8 + 0 * 1 = (i * 8) * 1 by omega, flat_cut (c := 1) (fun _ => rfl), flat_take (c := 1) (fun _ => rfl), Nat.sub_zero, soldS_row h hL hi]
theorem rowsF_mem {l : List Pl} {L : Nat} {v : List Int} (hl : okP L l) (h : LInv l L v) {n : Nat} (hn : n ≤ l.length) : ∀ r ∈ rowsF l L v n, r.length = L := by
  intro r hr
  simp only [rowsF, List.mem_map, List.mem_range] at hr
  obtain ⟨i, hi, rfl⟩ := hr
  exact (pileF_inv hl (by omega) (leftF_inv hl h i (by omega))).1.rlen
def oneC (x : PV) : List PV := [x]
def outsF (L : Nat) (rs : List (List Int)) (n g : Nat) : List PV := (rs.take g).flatMap (rowC L) ++ List.replicate (n - g) .nilSlice
theorem oneC_flat : ∀ xs : List PV, xs.flatMap oneC = xs
  | [] => rfl
  | x :: xs => by rw [List.flatMap_cons, oneC_flat xs]; rfl
theorem rowC_len (L : Nat) (rs : List (List Int)) : (rs.flatMap (rowC L)).length = rs.length := by
  rw [flat_len (c := 1) (fun _ => rfl), Nat.mul_one]
theorem outsF_set {L n g : Nat} {rs : List (List Int)} (hn : rs.length = n) (hg : g < n) : (outsF L rs n g).set g (.is ((rs[g]'(by omega)).flatMap i1) L) = outsF L rs n (g + 1) := by
  unfold outsF
  have e1 : ((rs.take g).flatMap (rowC L)).length = g := by rw [rowC_len, List.length_take, Nat.min_eq_left (by omega)]
  rw [List.set_append_right _ _ (by omega), show g - ((rs.take g).flatMap (rowC L)).length = 0 by omega, show n - g = (n - (g + 1)) + 1 by omega, List.replicate_succ, List.set_cons_zero, ← List.take_append_getElem (show g < rs.length by omega), List.flatMap_append, List.append_assoc]
  rfl
theorem outsF_len {L n g : Nat} {rs : List (List Int)} (hn : rs.length = n) (hg : g ≤ n) : (outsF L rs n g).length = n := by
  unfold outsF
  rw [List.length_append, rowC_len, List.length_take, List.length_replicate]; omega
theorem outsF_0 (L n : Nat) (rs : List (List Int)) : (List.replicate n [PV.nilSlice]).flatten = outsF L rs n 0 := by
  unfold outsF
  simp only [List.take_zero, List.flatMap_nil, List.nil_append, Nat.sub_zero]
  induction n with
  | zero => rfl
  | succ n ih => rw [List.replicate_succ, List.replicate_succ, List.flatten_cons, ih]; rfl
theorem outsF_all {L n : Nat} {rs : List (List Int)} (hn : rs.length = n) : outsF L rs n n = rs.flatMap (rowC L) := by
  unfold outsF
  rw [List.take_of_length_le (by omega), Nat.sub_self]; simp
end Go.Proofs.YtbnemnhmejmeeaaGreatDoor.Bx
end

section
set_option linter.unusedVariables false
set_option linter.unusedSimpArgs false
namespace Go.Proofs.YtbnemnhmejmeeaaGreatDoor.Bx
open Go.AF

/-- How many pencils of shade s the first k piles give. -/
def colS (rows : List (List Int)) (s k : Nat) : Int := isum (fun i => (rows[i]?.getD [])[s]?.getD 0) k
/-- An assignment. -/
structure Asg (need : List Int) (l : List Pl) (b : Int) (rows : List (List Int)) : Prop where
  len : rows.length = l.length
  rl : ∀ r ∈ rows, r.length = need.length
  pos : ∀ (i s : Nat), i < l.length → s < need.length → 0 ≤ (rows[i]?.getD [])[s]?.getD 0 ∧ (0 < (rows[i]?.getD [])[s]?.getD 0 → (l[i]?.getD ⟨0, 0⟩).s.testBit s = true)
  cap : ∀ i, i < l.length → (rows[i]?.getD []).sum ≤ (l[i]?.getD ⟨0, 0⟩).m
  col : ∀ s : Nat, s < need.length → colS rows s l.length = b * need[s]?.getD 0

theorem getD_set (l : List Int) (k i : Nat) (x : Int) : (l.set k x)[i]?.getD 0 = if i = k ∧ k < l.length then x else l[i]?.getD 0 := by
  rw [List.getElem?_set]
  by_cases e : k = i
  · subst e
    by_cases h : k < l.length
    · simp [h]
    · simp [h]
  · simp [e, Ne.symm e]
theorem sum_set : ∀ (l : List Int) (k : Nat) (x : Int), k < l.length → (l.set k x).sum = l.sum - l[k]?.getD 0 + x
  | [], k, x, h => by simp at h
  | a :: l, 0, x, h => by simp; omega
  | a :: l, k + 1, x, h => by
    have := sum_set l k x (by simpa using h)
    simp at this ⊢
    omega
theorem sum_rep (n : Nat) : (List.replicate n (0 : Int)).sum = 0 := by
  induction n with
  | zero => rfl
  | succ n ih => rw [List.replicate_succ, List.sum_cons, ih]; rfl
theorem getD_rep (n i : Nat) : (List.replicate n (0 : Int))[i]?.getD 0 = 0 := by
  rw [List.getElem?_replicate]
  split <;> rfl

section
variable {l : List Pl} {L i : Nat} {v : List Int}
/-- What was sold of a pile so far. -/
structure RInv (l : List Pl) (L : Nat) (v : List Int) (i k : Nat) (t : FSt) : Prop where
  zero : ∀ s : Nat, k ≤ s → t.row[s]?.getD 0 = 0
  bit : ∀ s : Nat, t.row[s]?.getD 0 ≠ 0 → (l[i]?.getD ⟨0, 0⟩).s.testBit s = true
  q : ∀ s : Nat, t.q.testBit s = true → (l[i]?.getD ⟨0, 0⟩).s.testBit s = true
  sum : t.row.sum + t.m = (l[i]?.getD ⟨0, 0⟩).m
  sold : ∀ s : Nat, t.row[s]?.getD 0 + t.v[s]?.getD 0 = (leftF l L v i)[s]?.getD 0
theorem midF_rows (hl : okP L l) (h : LInv l L v) (hi : i < l.length) : ∀ k, k ≤ L → RInv l L v i k (midF l L v i k)
  | 0, _ => by
    rw [midF_0 hi]
    have e : l[i]?.getD ⟨0, 0⟩ = l[i] := by simp [hi]
    refine ⟨fun s _ => getD_rep L s, fun s hs => absurd (getD_rep L s) hs, fun s hs => by rw [e]; exact hs, by rw [e, sum_rep]; simp, fun s => by rw [getD_rep]; simp⟩
  | k + 1, hk => by
    have ih := midF_rows hl h hi k (by omega)
    have hF := midF_inv hl h hi k (by omega)
    cases hq : (midF l L v i k).q.testBit k with
    | false =>
      rw [midF_no hq]
      exact ⟨fun s hs => ih.zero s (by omega), ih.bit, ih.q, ih.sum, ih.sold⟩
    | true =>
      rw [midF_yes hq]
      have hkr : k < (midF l L v i k).row.length := by rw [hF.rlen]; omega
      have hkv : k < (midF l L v i k).v.length := by rw [hF.len]; omega
      have hz := ih.zero k (Nat.le_refl _)
      refine ⟨fun s hs => ?_, fun s hs => ?_, fun s hs => ?_, ?_, fun s => ?_⟩
      · show ((midF l L v i k).row.set k _)[s]?.getD 0 = 0
        rw [getD_set, if_neg (by omega)]
        exact ih.zero s (by omega)
      · replace hs : ((midF l L v i k).row.set k _)[s]?.getD 0 ≠ 0 := hs
        rw [getD_set] at hs
        split at hs
        · rename_i e; rw [e.1]; exact ih.q k hq
        · exact ih.bit s hs
      · replace hs : (dropB (midF l L v i k).q k).testBit s = true := hs
        rw [testBit_dropB] at hs
        simp at hs
        exact ih.q s hs.1
      · show ((midF l L v i k).row.set k _).sum + ((midF l L v i k).m - _) = _
        rw [sum_set _ _ _ hkr, hz, ← ih.sum]
        omega
      · show ((midF l L v i k).row.set k _)[s]?.getD 0 + (lessV (midF l L v i k).v k _)[s]?.getD 0 = _
        rw [getD_set, lessV_get, ← ih.sold s]
        by_cases e : s = k
        · subst e
          rw [if_pos ⟨rfl, hkr⟩, if_pos ⟨rfl, hkv⟩, hz]
          omega
        · rw [if_neg (fun x => e x.1), if_neg (fun x => e x.1)]
theorem rowF_rows (hl : okP L l) (h : LInv l L v) (hi : i < l.length) : RInv l L v i L (pileF l L (leftF l L v i) i) := midF_rows hl h hi L (Nat.le_refl _)
theorem rowsF_get (n : Nat) (hi : i < n) : (rowsF l L v n)[i]?.getD [] = rowF l L v i := by simp [rowsF, hi]
theorem colS_left (hl : okP L l) (h : LInv l L v) (s : Nat) : ∀ k, k ≤ l.length → colS (rowsF l L v l.length) s k = v[s]?.getD 0 - (leftF l L v k)[s]?.getD 0
  | 0, _ => by simp [colS, isum, leftF]
  | k + 1, hk => by
    have ih := colS_left hl h s k (by omega)
    unfold colS at ih ⊢
    simp only [isum]
    rw [ih, rowsF_get _ (by omega)]
    have := (rowF_rows hl h (i := k) (by omega)).sold s
    show _ - _ + (rowF l L v k)[s]?.getD 0 = _ - ((pileF l L (leftF l L v k) k).v)[s]?.getD 0
    have e : (rowF l L v k)[s]?.getD 0 = (pileF l L (leftF l L v k) k).row[s]?.getD 0 := rfl
    rw [e]
    omega
theorem sumS_one (v : List Int) (s : Nat) : sumS v (2 ^ s) = v[s]?.getD 0 := by
  unfold sumS
  by_cases hs : s < v.length
  · have := isum_turn (f := fun _ => (0 : Int)) (g := fun i => if (2 ^ s).testBit i then v[i]?.getD 0 else 0) v.length hs (fun j _ hj => by
      rw [Nat.testBit_two_pow]; simp [Ne.symm hj])
    rw [this, isum_zero _ (fun _ _ => rfl), Nat.testBit_two_pow]
    simp
  · rw [isum_zero _ (fun j hj => by
      rw [Nat.testBit_two_pow]
      have : ¬ s = j := by omega
      simp [this])]
    simp [List.getElem?_eq_none (by omega : v.length ≤ s)]
theorem left_end (hl : okP L l) (h : LInv l L v) (s : Nat) : (leftF l L v l.length)[s]?.getD 0 = 0 := by
  have h1 := leftF_inv hl h l.length (Nat.le_refl _)
  have h2 := h1.H (2 ^ s)
  rw [sumS_one, List.drop_length] at h2
  have h3 : 0 ≤ (leftF l L v l.length)[s]?.getD 0 := getD_nonneg (fun x hx => (h1.pos x hx).1) s
  simp [ofP] at h2
  omega
theorem timesV_get1 (need : List Int) (b : Int) (s : Nat) : (timesV need b)[s]?.getD 0 = b * need[s]?.getD 0 := by
  unfold timesV
  rw [List.getElem?_map]
  cases need[s]? with
  | none => simp
  | some x => simp [Int.mul_comm]
end
theorem fill_asg {need : List Int} {l : List Pl} {b : Int} (hl : okP need.length l) (h : LInv l need.length (timesV need b)) : Asg need l b (rowsF l need.length (timesV need b) l.length) := by
  refine ⟨rowsF_length _ _ _ _, rowsF_mem hl h (Nat.le_refl _), fun i s hi hs => ?_, fun i hi => ?_, fun s hs => ?_⟩
  · rw [rowsF_get _ hi]
    have h1 := (pileF_inv hl hi (leftF_inv hl h i (by omega))).1
    have h2 := rowF_rows hl h hi
    have h3 : 0 ≤ (rowF l need.length (timesV need b) i)[s]?.getD 0 := getD_nonneg (fun x hx => (h1.row x hx).1) s
    exact ⟨h3, fun hp => h2.bit s (by show (rowF l need.length (timesV need b) i)[s]?.getD 0 ≠ 0; omega)⟩
  · rw [rowsF_get _ hi]
    have h1 := (pileF_inv hl hi (leftF_inv hl h i (by omega))).1
    have h2 := (rowF_rows hl h hi).sum
    have h3 := h1.m0
    show (pileF l need.length (leftF l need.length (timesV need b) i) i).row.sum ≤ _
    omega
  · rw [colS_left hl h s _ (Nat.le_refl _), left_end hl h, timesV_get1]
    omega

/-! ### What an assignment's sums are -/
theorem psum {r : List Int} (h : ∀ x ∈ r, 0 ≤ x) : ∀ k, 0 ≤ (r.take k).sum ∧ (r.take k).sum ≤ r.sum := by
  induction r with
  | nil => intro k; simp
  | cons a r ih =>
    intro k
    have ha := h a (by simp)
    have hr := ih (fun x hx => h x (by simp [hx]))
    cases k with
    | zero => have := hr r.length; rw [List.take_length] at this; simp; omega
    | succ k => have := hr k; simp; omega
theorem elem_sum {r : List Int} (h : ∀ x ∈ r, 0 ≤ x) : ∀ x ∈ r, x ≤ r.sum := by
  induction r with
  | nil => intro x hx; cases hx
  | cons a r ih =>
    intro x hx
    have ha := h a (by simp)
    have hs := psum (fun x hx => h x (by simp [hx]) : ∀ x ∈ r, 0 ≤ x) r.length
    rw [List.take_length] at hs
    rcases List.mem_cons.1 hx with rfl | hx
    · simp; omega
    · have := ih (fun x hx => h x (by simp [hx])) x hx
      simp; omega
section
variable {need : List Int} {l : List Pl} {b : Int} {rows : List (List Int)}
theorem Asg.row (h : Asg need l b rows) (hl : okP need.length l) {i : Nat} (hi : i < l.length) : ∃ hi' : i < rows.length, (∀ x ∈ rows[i], 0 ≤ x ∧ x ≤ 1048576) ∧ rows[i].sum ≤ (l[i]?.getD ⟨0, 0⟩).m ∧ rows[i].length = need.length := by
  have hi' : i < rows.length := by rw [h.len]; exact hi
  have hrl := h.rl rows[i] (List.getElem_mem _)
  have hp : ∀ x ∈ rows[i], 0 ≤ x := fun x hx => by
    obtain ⟨s, hs, rfl⟩ := List.getElem_of_mem hx
    have := (h.pos i s hi (by omega)).1
    simp [hi', hs] at this
    exact this
  have hc := h.cap i hi
  have e : rows[i]?.getD [] = rows[i] := by simp [hi']
  rw [e] at hc
  have hm : (l[i]?.getD ⟨0, 0⟩).m ≤ 1048576 := by
    have e2 : l[i]?.getD ⟨0, 0⟩ = l[i] := by simp [hi]
    rw [e2]; exact (hl.2 l[i] (List.getElem_mem _)).2.2
  exact ⟨hi', fun x hx => ⟨hp x hx, by have := elem_sum hp x hx; omega⟩, hc, hrl⟩
theorem Asg.colB (h : Asg need l b rows) (hl : okP need.length l) (s : Nat) (k : Nat) (hk : k ≤ l.length) : 0 ≤ colS rows s k ∧ colS rows s k ≤ 8388608 := by
  have h1 := isum_B (f := fun i => (rows[i]?.getD [])[s]?.getD 0) (A := 0) (B := 1048576) k (fun j hj => by
    obtain ⟨hi', hx, _, hrl⟩ := h.row hl (show j < l.length by omega)
    have e : rows[j]?.getD [] = rows[j] := by simp [hi']
    rw [e]
    by_cases hs : s < rows[j].length
    · rw [List.getElem?_eq_getElem hs]; exact hx _ (List.getElem_mem _)
    · rw [List.getElem?_eq_none (by omega)]; simp)
  have := hl.1
  unfold colS
  have : (1048576 : Int) * (k : Int) ≤ 1048576 * 8 := Int.mul_le_mul_of_nonneg_left (by omega) (by omega)
  omega
end
/-- What each shade was sold of the first piles. -/
def soldA (rows : List (List Int)) (L i k : Nat) : List Int := (List.range L).map fun s => if s < k then colS rows s (i + 1) else colS rows s i
theorem colS_succ {rows : List (List Int)} {s i : Nat} (hi : i < rows.length) (hs : s < rows[i].length) : colS rows s (i + 1) = colS rows s i + rows[i][s] := by
  simp [colS, isum, hi, hs]
def usedL (rows : List (List Int)) : List Int := rows.map List.sum
/-! ### Answers, number by number -/
def mN (need : List Int) (l : List Pr) : Int := (mostR need l).1
def mP (need : List Int) (l : List Pr) : Int := (mostR need l).2.1
def mE (need : List Int) (l : List Pr) : Int := (mostR need l).2.2
def fR (need : List Int) (l : List Pr) (b : Int) : List (List Int) := (fillR need l b).1
def fE (need : List Int) (l : List Pr) (b : Int) : Int := (fillR need l b).2
def lS (need : List Int) (l : List Pr) (b : Int) : Int := (lackR need l b).1
def lN (need : List Int) (l : List Pr) (b : Int) : Int := (lackR need l b).2.1
def lE (need : List Int) (l : List Pr) (b : Int) : Int := (lackR need l b).2.2
def uL (need : List Int) (l : List Pr) (b k : Int) : Int := (useR need l b k).1
def uH (need : List Int) (l : List Pr) (b k : Int) : Int := (useR need l b k).2.1
def uE (need : List Int) (l : List Pr) (b k : Int) : Int := (useR need l b k).2.2
theorem check_ok {need : List Int} {l : List Pr} {b : Int} (h : Vld need l) (b0 : 0 ≤ b) (b1 : b ≤ 1048576) : checkR need l b = 0 := by
  unfold checkR; rw [if_pos h, if_pos ⟨b0, b1⟩]
theorem fill_yes {need : List Int} {l : List Pr} {b : Int} (h : Vld need l) (b0 : 0 ≤ b) (b1 : b ≤ 1048576) (hc : canB need (toPl l) b = true) : fE need l b = 0 ∧ Asg need (toPl l) b (fR need l b) ∧ fR need l b = rowsF (toPl l) need.length (timesV need b) (toPl l).length := by
  have hz : (lkF (timesV need b) (toPl l) (allS need.length)).2 = 0 := of_decide_eq_true hc
  have e : fillR need l b = (rowsF (toPl l) need.length (timesV need b) (toPl l).length, 0) := by unfold fillR; rw [if_pos (check_ok h b0 b1), if_pos hz]
  have hLI := LInv.ok (toPl_ok h) h.2.2.1 h.1.2 b0 (by omega) hz
  refine ⟨by unfold fE; rw [e], ?_, by unfold fR; rw [e]⟩
  unfold fR; rw [e]
  exact fill_asg (toPl_ok h) hLI
theorem fill_no {need : List Int} {l : List Pr} {b : Int} (h : Vld need l) (b0 : 0 ≤ b) (b1 : b ≤ 1048576) (hc : canB need (toPl l) b = false) : fE need l b = 10 ∧ fR need l b = [] := by
  have hz : ¬ (lkF (timesV need b) (toPl l) (allS need.length)).2 = 0 := of_decide_eq_false hc
  have e : fillR need l b = ([], 10) := by unfold fillR; rw [if_pos (check_ok h b0 b1), if_neg hz]
  exact ⟨by unfold fE; rw [e], by unfold fR; rw [e]⟩
end Go.Proofs.YtbnemnhmejmeeaaGreatDoor.Bx
end
