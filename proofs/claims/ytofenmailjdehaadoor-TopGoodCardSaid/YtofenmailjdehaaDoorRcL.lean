/-
  From what the statements' arguments of chapter 11 may hold to plain data; what the statements about ways ask. No program in sight.
-/
import Derived.Test.YtofenmailjdehaaDoorRcS
import Derived.Test.YtofenmailjdehaaDoorPlB
set_option linter.unusedVariables false
set_option linter.unusedSimpArgs false
namespace Go.Proofs.YtofenmailjdehaaDoor
open Go.AF
theorem bat_of {el : List PV} (h : TyL [.leaf (.int .i64), .leaf (.int .i64)] el) : ∃ t : Bat, el = t.cells := by
  obtain ⟨xs, h1, h2⟩ := ints_of (n := 2) h
  match xs, h1 with
  | [a, b], _ => exact ⟨⟨a, b⟩, h2⟩
theorem bats_of {x : List PV} (h : TyL [.sl [.leaf (.int .i64), .leaf (.int .i64)]] x) : ∃ c : List Bat, x = [batV c] ∧ c.length ≤ bigN :=
  sl_of (f := Bat.cells) (fun el => bat_of) h
theorem u8_of {x : List PV} (h : TyL [.leaf (.int .u8)] x) : ∃ n : Nat, x = [.int .u8 (n : Int)] ∧ n ≤ 255 := by
  obtain ⟨n, e, h1, h2⟩ := kint_of .u8 h
  have a1 : (0 : Int) ≤ n := h1
  have a2 : n ≤ 255 := h2
  exact ⟨n.toNat, by rw [e, Int.toNat_of_nonneg a1], by omega⟩
theorem u32_of {x : List PV} (h : TyL [.leaf (.int .u32)] x) : ∃ n : Nat, x = [.int .u32 (n : Int)] ∧ n < 2 ^ 32 := by
  obtain ⟨n, e, h1, h2⟩ := kint_of .u32 h
  have a1 : (0 : Int) ≤ n := h1
  have a2 : n ≤ 4294967295 := h2
  exact ⟨n.toNat, by rw [e, Int.toNat_of_nonneg a1], by omega⟩
theorem tmodN (a b : Nat) : Int.tmod (a : Int) (b : Int) = ((a % b : Nat) : Int) := rfl
theorem bitE (n b : Nat) : decide (((n / 2 ^ b &&& 1 : Nat) : Int) = 1) = n.testBit b := by
  rw [Nat.testBit_eq_decide_div_mod_eq, Nat.and_one_is_mod]
  exact decide_eq_decide.2 (by omega)
theorem div_le_of {n b m : Nat} (h : n ≤ m) : n / 2 ^ b ≤ m := Nat.le_trans (Nat.div_le_self _ _) h
theorem chkE_le {l : List Bat} : chkE l [] = 1 ∨ chkE l [] = 0 := by unfold chkE; split <;> simp
theorem fromE_0 {l : List Bat} {b : Int} (h : fromE l b = 0) : crdOk l ∧ 0 ≤ b ∧ b.toNat < l.length ∧ ∀ R, fromN l R b = R b.toNat := by
  have h1 := h
  unfold fromE at h1
  split at h1
  · rename_i hC
    split at h1
    · rename_i hI
      simp [inB] at hI
      exact ⟨hC, hI.1, by omega, fun R => by unfold fromN; rw [if_pos h]⟩
    · cases h1
  · cases h1
theorem fromE_n {l : List Bat} {b : Int} (h : fromE l b ≠ 0) : (∀ R, fromN l R b = 0) ∧ decide (fromE l b = 1) = !decide (crdOk l) := by
  refine ⟨fun R => by unfold fromN; rw [if_neg h], ?_⟩
  unfold fromE at h ⊢
  split at h
  · rename_i hC
    split at h
    · exact absurd rfl h
    · rename_i hI
      rw [if_pos hC, if_neg hI, decide_eq_true hC]; rfl
  · rename_i hC
    rw [if_neg hC, decide_eq_false hC]; rfl
theorem fromE_in {l : List Bat} (hC : crdOk l) {i : Nat} (hi : i < l.length) : fromE l (i : Int) = 0 := by
  unfold fromE
  rw [if_pos hC, if_pos]
  simp [inB]; omega
theorem xand_zero {a b : Nat} (h : ∀ i, a.testBit i = true → b.testBit i = true) : a ^^^ (a &&& b) = 0 := by
  apply bit_ext
  intro i
  rw [xand_bit, Nat.zero_testBit]
  constructor
  · rintro ⟨h1, h2⟩; rw [h i h1] at h2; cases h2
  · intro h; cases h
/-! ### There and back -/
theorem both_1 {l : List Bat} {b o : Nat} (hb : b < l.length) : (backN l b).testBit o = (aheadN l o).testBit b := by rw [ahead_bit, decide_eq_true hb]; rfl
theorem both_2 {l : List Bat} {b o : Nat} (h : (aheadN l b).testBit o = true) : backN l b ^^^ (backN l b &&& backN l o) = 0 ∧ aheadN l o ^^^ (aheadN l o &&& aheadN l b) = 0 := by
  rw [ahead_bit, Bool.and_eq_true, decide_eq_true_eq] at h
  refine ⟨xand_zero fun i hi => back_trans l h.2 hi, xand_zero fun i hi => ?_⟩
  rw [ahead_bit, Bool.and_eq_true, decide_eq_true_eq] at hi ⊢
  exact ⟨hi.1, back_trans l hi.2 h.2⟩
theorem stepB_lt (l : List Bat) (b : Nat) : ∀ n, n ≤ b → stepB l (backs l b) b n < 2 ^ (b + 1) := fun n hn => bit_lt fun i hi => by
  rcases (stepB_bit l b i n hn).1 hi with rfl | ⟨k, h1, h2, h3⟩
  · omega
  · have := back_le l h3; omega
end Go.Proofs.YtofenmailjdehaaDoor
