/-
  Plain laws of chapter 2: pairs in order, a greater gap. No program in sight.
-/
import Derived.Test.YthiapodcippnoaaSdL
set_option linter.unusedVariables false
set_option linter.unusedSimpArgs false
namespace Go.Proofs.Ythiapodcippnoaa
open Go.AF
theorem openE_ne4 (c : List Tnt) (ls : List Lds) (most : Int) (valid : Bool) : openE c ls most valid ≠ 4 := by
  unfold openE
  split
  · omega
  · split
    · omega
    · split
      · omega
      · split <;> omega
theorem blackR_of {c : List Tnt} {ls : List Lds} {most : Int} {valid : Bool} (h : Opn c ls most valid) {l : Lds} (hl : l ∈ ls) : blackR c l = (blk c l, 0) := by
  rw [blackR_eq, if_pos h.oc, if_pos ((ldB_iff l).2 (h.ol l hl)), if_pos (show blkB c l = true from decide_eq_true (h.ob l hl))]
structure OrdOk (c : List Tnt) (ls : List Lds) (nms : List Int) (gap : Int) (I K : Nat) : Prop where
  e : ordR c ls nms gap = ((I : Int), (K : Int), 0)
  i : I < ls.length
  k : K < ls.length
  w : wrongB c ls nms gap I K = true
  b : ∀ x y, x < ls.length → y < ls.length → wrongB c ls nms gap x y = true → I < x ∨ I = x ∧ K ≤ y
theorem ord_cases (c : List Tnt) (ls : List Lds) (nms : List Int) (gap : Int) : (openE c ls 10 (ordV ls nms gap) ≠ 0 ∧ ordR c ls nms gap = (0, 0, openE c ls 10 (ordV ls nms gap))) ∨
    (openE c ls 10 (ordV ls nms gap) = 0 ∧ ((∃ I K : Nat, OrdOk c ls nms gap I K) ∨ (ordR c ls nms gap = (0, 0, 4) ∧ ∀ x y, x < ls.length → y < ls.length → wrongB c ls nms gap x y = false))) := by
  by_cases e : openE c ls 10 (ordV ls nms gap) = 0
  · right
    refine ⟨e, ?_⟩
    have hj : ∀ x y, x < ls.length → y < ls.length → x * ls.length + y < ls.length * ls.length ∧ (x * ls.length + y) / ls.length = x ∧ (x * ls.length + y) % ls.length = y := fun x y hx hy => by
      refine ⟨?_, ?_, ?_⟩
      · have := Nat.mul_le_mul_right ls.length (show x + 1 ≤ ls.length by omega)
        rw [Nat.succ_mul] at this
        omega
      · rw [Nat.add_comm, Nat.add_mul_div_right _ _ (by omega), Nat.div_eq_of_lt hy, Nat.zero_add]
      · rw [Nat.add_comm, Nat.add_mul_mod_self_right, Nat.mod_eq_of_lt hy]
    rcases fstN_spec (p := wrongJ c ls nms gap) (n := ls.length * ls.length) with ⟨h1, h2⟩ | ⟨j, h1, h2, h3, h4⟩
    · right
      refine ⟨by unfold ordR; rw [if_pos e, h1], fun x y hx hy => ?_⟩
      obtain ⟨a1, a2, a3⟩ := hj x y hx hy
      have := h2 _ a1
      unfold wrongJ at this
      rwa [a2, a3] at this
    · left
      have hn0 : 0 < ls.length := by
        rcases Nat.eq_zero_or_pos ls.length with h | h
        · rw [h] at h2; omega
        · exact h
      refine ⟨j / ls.length, j % ls.length, ⟨by unfold ordR; rw [if_pos e, h1], Nat.div_lt_of_lt_mul h2, Nat.mod_lt _ hn0, h3, fun x y hx hy hw => ?_⟩⟩
      obtain ⟨a1, a2, a3⟩ := hj x y hx hy
      have h5 : ¬ x * ls.length + y < j := fun h => by
        have := h4 _ h
        unfold wrongJ at this
        rw [a2, a3, hw] at this
        cases this
      have h6 := Nat.div_add_mod j ls.length
      have h7 := Nat.mod_lt j hn0
      rcases Nat.lt_trichotomy (j / ls.length) x with h | h | h
      · exact .inl h
      · right
        refine ⟨h, ?_⟩
        subst h
        rw [Nat.mul_comm] at h6
        omega
      · exfalso
        have := Nat.mul_le_mul_right ls.length (show x + 1 ≤ j / ls.length by omega)
        rw [Nat.succ_mul] at this
        rw [Nat.mul_comm] at h6
        omega
  · left
    exact ⟨e, by unfold ordR; rw [if_neg e]⟩
theorem ord_more {c : List Tnt} {ls : List Lds} {nms : List Int} {gap gap' : Int} {I K : Nat} (he : openE c ls 10 (ordV ls nms gap) = 0) (h : OrdOk c ls nms gap I K) (h1 : gap ≤ gap') (h2 : gap' ≤ 200) : (ordR c ls nms gap').2.2 = 0 := by
  have hO := openE_zero.1 he
  have hV := ordV_true hO.ov
  have hV' : ordV ls nms gap' = true := by
    unfold ordV inB
    simp only [Bool.and_eq_true, decide_eq_true_eq, List.all_eq_true]
    exact ⟨⟨hV.1, by omega, h2⟩, fun n hn => hV.2.2 n hn⟩
  have he' : openE c ls 10 (ordV ls nms gap') = 0 := by
    rw [hV']
    have := hO.ov
    rwa [this] at he
  rcases ord_cases c ls nms gap' with ⟨h3, _⟩ | ⟨_, ⟨I', K', h4⟩ | ⟨_, h5⟩⟩
  · exact absurd he' h3
  · rw [h4.e]
  · have h6 := h.w
    have h7 := h5 I K h.i h.k
    unfold wrongB at h6 h7
    rw [Bool.and_eq_true] at h6
    rw [h6.1, Bool.true_and] at h7
    have h8 := of_decide_eq_true h6.2
    have h9 := of_decide_eq_false h7
    omega
def spC (p : Int × Int) : List PV := [.int .i64 p.1, .int .i64 p.2]
def spsV (l : List (Int × Int)) : PV := .is (l.flatMap spC) l.length
def blksB (c : List Tnt) (ls : List Lds) : Bool := ls.all fun l => decide ((blackR c l).2 = 0)
theorem blk_get (c : List Tnt) (ls : List Lds) : ∀ k (h : k < (ls.map (blk c)).length), (ls.map (blk c))[k] = blk c (ld ls k) := fun k h => by
  rw [List.getElem_map, ld_get]
theorem blksB_open {c : List Tnt} {ls : List Lds} {most : Int} {valid : Bool} (h : Opn c ls most valid) : blksB c ls = true := by
  unfold blksB
  rw [List.all_eq_true]
  intro l hl
  rw [blackR_of h hl]
  rfl
end Go.Proofs.Ythiapodcippnoaa
