/-
  The plain law of boxes: needs and stocks by sets; a greedy choice keeps all others possible. No program in sight.
-/
import Derived.Test.YtpamkihpffoflaaPl
set_option linter.unusedVariables false
set_option linter.unusedSimpArgs false
namespace Go.Proofs.Ytpamkihpffoflaa
/-- A pile: its shades by bits, and how many. -/
structure Pl where
  s : Nat
  m : Int
/-- What a set needs. -/
def sumS (v : List Int) (s : Nat) : Int := isum (fun i => if s.testBit i then v[i]?.getD 0 else 0) v.length
/-- What a set has. -/
def ofP (l : List Pl) (s : Nat) : Int := (l.map fun p => if p.s &&& s = 0 then 0 else p.m).sum
theorem sumS_zero (v : List Int) : sumS v 0 = 0 := isum_zero _ fun i _ => by simp
theorem sumS_mod (v : List Int) (s t : Nat) : sumS v (s ||| t) + sumS v (s &&& t) = sumS v s + sumS v t := by
  unfold sumS
  rw [← isum_add, ← isum_add]
  refine isum_congr _ fun i _ => ?_
  simp only [Nat.testBit_or, Nat.testBit_and]
  cases s.testBit i <;> cases t.testBit i <;> simp
theorem meets_or (p s t : Nat) : p &&& (s ||| t) = 0 ↔ p &&& s = 0 ∧ p &&& t = 0 := by
  rw [Nat.and_or_distrib_left]
  exact Nat.or_eq_zero_iff
theorem meets_and {p s t : Nat} (h : ¬ p &&& (s &&& t) = 0) : ¬ p &&& s = 0 ∧ ¬ p &&& t = 0 := by
  constructor
  · intro h1
    rw [← Nat.and_assoc, h1, Nat.zero_and] at h
    exact h rfl
  · intro h1
    rw [Nat.and_comm s t, ← Nat.and_assoc, h1, Nat.zero_and] at h
    exact h rfl
def posP (l : List Pl) : Prop := ∀ p ∈ l, 0 ≤ p.m
theorem ofP_sub {l : List Pl} (hl : posP l) (s t : Nat) : ofP l (s ||| t) + ofP l (s &&& t) ≤ ofP l s + ofP l t := by
  unfold ofP
  rw [← lsum_add, ← lsum_add]
  refine lsum_mono l fun p hp => ?_
  have h0 := hl p hp
  have h1 := meets_or p.s s t
  have h2 := meets_and (p := p.s) (s := s) (t := t)
  by_cases a : p.s &&& s = 0 <;> by_cases b : p.s &&& t = 0 <;> by_cases c : p.s &&& (s &&& t) = 0 <;> simp_all <;> omega
theorem ofP_nonneg {l : List Pl} (hl : posP l) (s : Nat) : 0 ≤ ofP l s := lsum_nonneg l fun p hp => by
  split
  · omega
  · exact hl p hp
/-- A part of a set has no more. -/
theorem ofP_part {l : List Pl} (hl : posP l) (s t : Nat) : ofP l (s &&& t) ≤ ofP l t := by
  unfold ofP
  refine lsum_mono l fun p hp => ?_
  have h0 := hl p hp
  have h2 := meets_and (p := p.s) (s := s) (t := t)
  by_cases b : p.s &&& t = 0 <;> by_cases c : p.s &&& (s &&& t) = 0 <;> simp_all
theorem ofP_cons (p : Pl) (l : List Pl) (s : Nat) : ofP (p :: l) s = (if p.s &&& s = 0 then 0 else p.m) + ofP l s := by simp [ofP]
/-- No set lacks anything. -/
def Hall (v : List Int) (l : List Pl) : Prop := ∀ s, sumS v s ≤ ofP l s
/-- The list with one number less. -/
def lessV (v : List Int) (j : Nat) (n : Int) : List Int := v.set j (v[j]?.getD 0 - n)
theorem lessV_length (v : List Int) (j : Nat) (n : Int) : (lessV v j n).length = v.length := by simp [lessV]
theorem sumS_less {v : List Int} {j : Nat} (hj : j < v.length) (n : Int) (s : Nat) : sumS (lessV v j n) s = sumS v s - if s.testBit j then n else 0 := by
  unfold sumS
  rw [lessV_length]
  have h := isum_turn (f := fun i => if s.testBit i then v[i]?.getD 0 else 0) (g := fun i => if s.testBit i then (lessV v j n)[i]?.getD 0 else 0) v.length hj (fun i hi hne => by
    have : (lessV v j n)[i]? = v[i]? := by unfold lessV; rw [List.getElem?_set_ne (Ne.symm hne)]
    simp only [this])
  rw [h]
  have e : (lessV v j n)[j]?.getD 0 = v[j]?.getD 0 - n := by
    unfold lessV
    rw [List.getElem?_set_self hj]
    rfl
  simp only [e]
  split <;> omega
/-- The set without one shade. -/
def dropB (s j : Nat) : Nat := if s.testBit j then s ^^^ 2 ^ j else s
theorem testBit_dropB (s j i : Nat) : (dropB s j).testBit i = (s.testBit i && !decide (i = j)) := by
  unfold dropB
  split
  · rename_i h
    rw [Nat.testBit_xor, Nat.testBit_two_pow]
    by_cases e : i = j
    · subst e; simp [h]
    · have e' : ¬ j = i := fun h => e h.symm
      simp [e, e']
  · rename_i h
    by_cases e : i = j
    · subst e; simp at h; simp [h]
    · simp [e]
theorem and_zero_iff (p s : Nat) : p &&& s = 0 ↔ ∀ i, ¬ (p.testBit i = true ∧ s.testBit i = true) := by
  constructor
  · intro h i ⟨h1, h2⟩
    have : (p &&& s).testBit i = true := by rw [Nat.testBit_and, h1, h2]; rfl
    rw [h] at this
    simp at this
  · intro h
    apply Nat.eq_of_testBit_eq
    intro i
    rw [Nat.testBit_and, Nat.zero_testBit]
    have := h i
    revert this
    cases p.testBit i <;> cases s.testBit i <;> simp
theorem dropB_part (s j : Nat) : dropB s j &&& s = dropB s j := by
  apply Nat.eq_of_testBit_eq
  intro i
  rw [Nat.testBit_and, testBit_dropB]
  cases s.testBit i <;> simp
theorem sumS_drop {v : List Int} {s j : Nat} (hj : j < v.length) (h : s.testBit j = true) : sumS v (dropB s j) = sumS v s - v[j]?.getD 0 := by
  unfold sumS
  rw [isum_turn (f := fun i => if s.testBit i then v[i]?.getD 0 else 0) (g := fun i => if (dropB s j).testBit i then v[i]?.getD 0 else 0) v.length hj (fun i hi hne => by
    simp only [testBit_dropB]
    simp [hne])]
  simp only [testBit_dropB, h]
  simp
/-- **The greedy choice.** A pile that may be sold as shade j, and as those of q beside it; n of it are sold as j, as great as can be so that all others can still be had: then all is possible as before. -/
theorem greedy {v : List Int} {q : Nat} {m n : Int} {rest : List Pl} {j : Nat} (hj : j < v.length) (hq : q.testBit j = false) (hr : posP rest) (hm : n ≤ m)
    (H : ∀ s, sumS v s ≤ (if (q ||| 2 ^ j) &&& s = 0 then 0 else m) + ofP rest s)
    (hc : ∀ s, s.testBit j = false → sumS v s ≤ (if q &&& s = 0 then 0 else m - n) + ofP rest s)
    (hmax : n = m ∨ n = v[j]?.getD 0 ∨ ∃ t, t.testBit j = false ∧ ¬ q &&& t = 0 ∧ m - n + ofP rest t ≤ sumS v t) :
    ∀ s, sumS (lessV v j n) s ≤ (if q &&& s = 0 then 0 else m - n) + ofP rest s := by
  intro s
  rw [sumS_less hj]
  cases hs : s.testBit j with
  | false =>
    have := hc s hs
    simpa using this
  | true =>
    simp only [if_true]
    have hbit : ¬ (q ||| 2 ^ j) &&& s = 0 := fun h => by
      have := (and_zero_iff _ _).1 h j
      rw [Nat.testBit_or, Nat.testBit_two_pow_self, hs] at this
      simp at this
    have h2 := H s
    rw [if_neg hbit] at h2
    by_cases hqs : q &&& s = 0
    · rw [if_pos hqs]
      -- the set without j: the pile does not meet it
      have hd : (q ||| 2 ^ j) &&& dropB s j = 0 := by
        rw [and_zero_iff]
        rintro i ⟨h3, h4⟩
        rw [testBit_dropB] at h4
        simp at h4
        rw [Nat.testBit_or, Nat.testBit_two_pow] at h3
        have hne : ¬ j = i := fun e => h4.2 e.symm
        simp [hne] at h3
        exact (and_zero_iff _ _).1 hqs i ⟨h3, h4.1⟩
      have h5 := H (dropB s j)
      rw [if_pos hd, sumS_drop hj hs] at h5
      have h6 := ofP_part hr (dropB s j) s
      rw [dropB_part] at h6
      rcases hmax with e | e | ⟨t, ht, hqt, hle⟩
      · omega
      · omega
      · have h7 := H (s ||| t)
        have hne : ¬ (q ||| 2 ^ j) &&& (s ||| t) = 0 := fun h => hbit ((meets_or _ _ _).1 h).1
        rw [if_neg hne] at h7
        have h8 := H (s &&& t)
        have hst : (q ||| 2 ^ j) &&& (s &&& t) = 0 := by
          rw [and_zero_iff]
          rintro i ⟨h3, h4⟩
          rw [Nat.testBit_and] at h4
          simp at h4
          rw [Nat.testBit_or, Nat.testBit_two_pow] at h3
          by_cases e : j = i
          · subst e; rw [ht] at h4; simp at h4
          · simp [e] at h3
            exact (and_zero_iff _ _).1 hqs i ⟨h3, h4.1⟩
        rw [if_pos hst] at h8
        have h9 := sumS_mod v s t
        have h10 := ofP_sub hr s t
        omega
    · rw [if_neg hqs]
      omega
end Go.Proofs.Ytpamkihpffoflaa
