/-
  Chapter 7: the orders come in lexicographic order, all of them; the best one is the first that is done earliest. No program in sight.
-/
import Derived.Test.YtibgdkaipleajaaCuP3
section
set_option linter.unusedVariables false
set_option linter.unusedSimpArgs false
namespace Go.Proofs.Ytibgdkaipleajaa
open Go.AF
/-- Where two orders first differ, the first one is less. -/
def LexLe (a b : List Int) : Prop := ∀ i, (∀ j, j < i → nt a j = nt b j) → nt a i ≤ nt b i
theorem lex_refl (a : List Int) : LexLe a a := fun _ _ => Int.le_refl _
theorem lex_app {l m m' : List Int} {x y : Int} (h : x < y) : LexLe (l ++ x :: m) (l ++ y :: m') := by
  intro i hi
  rcases Nat.lt_trichotomy i l.length with h1 | h1 | h1
  · rw [nt_app h1, nt_app h1]; exact Int.le_refl _
  · subst h1
    rw [nt_end, nt_end]; omega
  · have := hi l.length h1
    rw [nt_end, nt_end] at this
    omega
theorem ordE_lex {p : Pnt} {F : List Int → List (List Int)} {l : List Int} (hF : ∀ j : Nat, (F (l ++ [(j : Int)])).Pairwise LexLe) (hm : ∀ (j : Nat) o, o ∈ F (l ++ [(j : Int)]) → ∃ m, o = l ++ (j : Int) :: m) : ∀ k, (ordE p F l k).Pairwise LexLe
  | 0 => List.Pairwise.nil
  | k + 1 => by
    have ih := ordE_lex hF hm (p := p) k
    unfold ordE
    split
    · rw [List.pairwise_append]
      refine ⟨ih, hF k, fun a ha b hb => ?_⟩
      obtain ⟨j, hj, ha2⟩ := ordE_mem k ha
      obtain ⟨m, rfl⟩ := hm j a ha2
      obtain ⟨m', rfl⟩ := hm k b hb
      exact lex_app (by omega)
    · exact ih
theorem ordF_lex {p : Pnt} : ∀ f l, (ordF p f l).Pairwise LexLe
  | 0, l => by
    show [l].Pairwise LexLe
    exact List.pairwise_singleton _ _
  | f + 1, l => ordE_lex (fun j => ordF_lex f _) (fun j o h => by
      obtain ⟨m, rfl, _⟩ := ordF_mem f _ _ h
      exact ⟨m, by simp⟩) _
theorem ordE_in {p : Pnt} {F : List Int → List (List Int)} {l o : List Int} {j : Nat} (hc : countI l (j : Int) l.length < (cot p.bs j).dry.length) (ho : o ∈ F (l ++ [(j : Int)])) : ∀ k, j < k → o ∈ ordE p F l k
  | 0, h => by omega
  | k + 1, h => by
    unfold ordE
    rcases Nat.lt_succ_iff_lt_or_eq.1 h with h1 | rfl
    · have ih := ordE_in hc ho k h1
      split
      · exact List.mem_append_left _ ih
      · exact ih
    · rw [if_pos hc]
      exact List.mem_append_right _ ho
/-- An order of all coats is one of them. -/
theorem ord_in {p : Pnt} : ∀ (f : Nat) (l m : List Int), m.length = f → OrdV p (l ++ m) → l ++ m ∈ ordF p f l
  | 0, l, m, hm, _ => by
    rw [List.eq_nil_of_length_eq_zero hm, List.append_nil]
    exact List.mem_singleton.2 rfl
  | f + 1, l, m, hm, hV => by
    cases m with
    | nil => cases hm
    | cons x m =>
      obtain ⟨k, h1, h2, h3⟩ := hV l.length (by simp)
      rw [nt_end] at h1
      subst h1
      rw [countI_app _ _ _ _ (Nat.le_refl _)] at h3
      have e : l ++ (k : Int) :: m = (l ++ [(k : Int)]) ++ m := by simp
      refine ordE_in h3 ?_ _ h2
      rw [e]
      exact ord_in f _ m (Nat.succ.inj hm) (by rw [← e]; exact hV)
def dnN (p : Pnt) (o : List Int) : Int := doneN (stN p o o.length)
/-- What is known of the best order so far. -/
def RefOk (p : Pnt) (L : List (List Int)) (i : Nat) : Prop :=
  (refN p L i = none ∧ ∀ j, j < i → ¬ (timesR p (lsI L j)).2.2 = 0) ∨
  (∃ k, k < i ∧ refN p L i = some (lsI L k, dnN p (lsI L k)) ∧ (timesR p (lsI L k)).2.2 = 0 ∧ (∀ j, j < i → (timesR p (lsI L j)).2.2 = 0 → dnN p (lsI L k) ≤ dnN p (lsI L j)) ∧ (∀ j, j < k → (timesR p (lsI L j)).2.2 = 0 → dnN p (lsI L k) < dnN p (lsI L j)))
theorem ref_all (p : Pnt) (L : List (List Int)) : ∀ i, RefOk p L i
  | 0 => .inl ⟨rfl, fun j hj => absurd hj (by omega)⟩
  | i + 1 => by
    have ih := ref_all p L i
    cases hb : impB p (refN p L i) (lsI L i) with
    | true =>
      have e : refN p L (i + 1) = some (lsI L i, dnN p (lsI L i)) := refS_T hb
      unfold impB at hb
      rw [Bool.and_eq_true] at hb
      have ht := of_decide_eq_true hb.1
      refine .inr ⟨i, by omega, e, ht, fun j hj h => ?_, fun j hj h => ?_⟩
      all_goals
        rcases ih with ⟨h1, h2⟩ | ⟨k, h1, h2, h3, h4, h5⟩
      · rcases Nat.lt_succ_iff_lt_or_eq.1 hj with h6 | rfl
        · exact absurd h (h2 j h6)
        · exact Int.le_refl _
      · rw [h2] at hb
        have h7 : dnN p (lsI L i) < dnN p (lsI L k) := by
          have := hb.2
          exact of_decide_eq_true this
        rcases Nat.lt_succ_iff_lt_or_eq.1 hj with h6 | rfl
        · have := h4 j h6 h; omega
        · exact Int.le_refl _
      · exact absurd h (h2 j hj)
      · rw [h2] at hb
        have h7 : dnN p (lsI L i) < dnN p (lsI L k) := by
          have := hb.2
          exact of_decide_eq_true this
        have := h4 j hj h
        omega
    | false =>
      have e : refN p L (i + 1) = refN p L i := refS_F hb
      unfold RefOk
      rw [e]
      unfold impB at hb
      rcases ih with ⟨h1, h2⟩ | ⟨k, h1, h2, h3, h4, h5⟩
      · refine .inl ⟨h1, fun j hj h => ?_⟩
        rcases Nat.lt_succ_iff_lt_or_eq.1 hj with h6 | rfl
        · exact h2 j h6 h
        · rw [h1, decide_eq_true h] at hb
          cases hb
      · refine .inr ⟨k, by omega, h2, h3, fun j hj h => ?_, h5⟩
        rcases Nat.lt_succ_iff_lt_or_eq.1 hj with h6 | rfl
        · exact h4 j h6 h
        · rw [h2, decide_eq_true h] at hb
          have h7 := of_decide_eq_false (show decide (doneN (stN p (lsI L j) (lsI L j).length) < dnN p (lsI L k)) = false from hb)
          show _ ≤ doneN (stN p (lsI L j) (lsI L j).length)
          omega
/-- The best order, or why there is none. -/
theorem best_cases {p : Pnt} (hT : pntB p = true) :
    (bestR p = (none, 4) ∧ ∀ o, o ∈ ordF p (coats p) [] → ¬ (timesR p o).2.2 = 0) ∨
    (∃ b, bestR p = (some (b, dnN p b), 0) ∧ (timesR p b).2.2 = 0 ∧ b.length = coats p ∧ ∀ o, o ∈ ordF p (coats p) [] → (timesR p o).2.2 = 0 → dnN p b ≤ dnN p o ∧ (dnN p o = dnN p b → LexLe b o)) := by
  have hp := pnt_ok hT
  have hb := refN_best hT
  have hR := ref_all p (ordF p (coats p) []) (ordF p (coats p) []).length
  have hidx : ∀ o, o ∈ ordF p (coats p) [] → ∃ j, j < (ordF p (coats p) []).length ∧ o = lsI (ordF p (coats p) []) j := fun o ho => by
    obtain ⟨j, hj, rfl⟩ := List.getElem_of_mem ho
    exact ⟨j, hj, lsI_get j hj⟩
  rcases hR with ⟨h1, h2⟩ | ⟨k, h1, h2, h3, h4, h5⟩
  · left
    rw [hb] at h1
    refine ⟨?_, fun o ho => ?_⟩
    · unfold bestR
      rw [if_neg (by rw [hT]; decide), h1]
      rfl
    · obtain ⟨j, hj, rfl⟩ := hidx o ho
      exact h2 j hj
  · right
    rw [hb] at h2
    refine ⟨lsI (ordF p (coats p) []) k, ?_, h3, ord9 hp (lsI_mem h1), fun o ho hto => ?_⟩
    · unfold bestR
      rw [if_neg (by rw [hT]; decide), h2]
      rfl
    · obtain ⟨j, hj, rfl⟩ := hidx o ho
      refine ⟨h4 j hj hto, fun he => ?_⟩
      have hkj : k ≤ j := by
        rcases Nat.lt_or_ge j k with h6 | h6
        · have := h5 j h6 hto; omega
        · exact h6
      rcases Nat.lt_or_ge k j with h6 | h6
      · have hl := List.pairwise_iff_getElem.1 (ordF_lex (p := p) (coats p) []) k j h1 hj h6
        rwa [lsI_get k h1, lsI_get j hj] at hl
      · rw [show j = k by omega]
        exact lex_refl _
theorem other_in {p : Pnt} (hp : Ok p) (by_ : List Nat) : ordN p by_ 9 ∈ ordF p (coats p) [] :=
  ord_in (coats p) [] (ordN p by_ 9) (ordN_all hp by_) (ordN_V (by have := hp.n; omega) by_ 9)
theorem best_F {p : Pnt} (hT : pntB p = false) : bestR p = (none, 1) := if_pos hT
end Go.Proofs.Ytibgdkaipleajaa
end
