/-
  What the document's own functions of chapter 11 compute, step by step. No program in sight.
-/
import Derived.Test.YtlalikkkobpfgaaDoorRcU
set_option linter.unusedVariables false
set_option linter.unusedSimpArgs false
namespace Go.Proofs.YtlalikkkobpfgaaDoor
open Go.AF
def n64 (x : Nat) : List PV := [.int .i64 (x : Int)]
def natsV (l : List Nat) : PV := .is (l.flatMap n64) l.length
theorem setOf_eq {p : Nat → Bool} {n a : Nat} (h : a < 2 ^ n) (hp : ∀ i, i < n → p i = a.testBit i) : setOf p n = a := by
  apply bit_ext
  intro i
  rw [setOf_bit]
  by_cases hi : i < n
  · rw [decide_eq_true hi, Bool.true_and, hp i hi]
  · rw [decide_eq_false hi, Bool.false_and]
    constructor
    · intro h; cases h
    · intro h2; exact absurd (bit_of_lt h h2) hi
def joP (a b : Nat) : Nat → Bool := fun k => a.testBit k || b.testBit k
theorem jo_all {a b : Nat} (ha : a < 2 ^ 24) (hb : b < 2 ^ 24) : setOf (joP a b) 24 = a ||| b :=
  setOf_eq (Nat.or_lt_two_pow ha hb) fun i _ => by rw [Nat.testBit_or]; rfl
theorem setOf_T {p : Nat → Bool} {n : Nat} (h : p n = true) : setOf p (n + 1) = setOf p n + 2 ^ n := by rw [setOf, if_pos h]
theorem setOf_F {p : Nat → Bool} {n : Nat} (h : p n = false) : setOf p (n + 1) = setOf p n := by rw [setOf, if_neg (by rw [h]; decide)]
/-! ### Who explains the complaints -/
def exT (l : List Bat) (bad good i k : Nat) : Bool := (!bad.testBit k || (backN l k).testBit i) && (!good.testBit k || !(backN l k).testBit i)
def exF (l : List Bat) (bad good i k : Nat) : Bool := (List.range k).all (exT l bad good i)
theorem exF_all (l : List Bat) (bad good i : Nat) : exF l bad good i l.length = explB l bad good i := rfl
theorem exF_T {l : List Bat} {bad good i k : Nat} (h : exT l bad good i k = true) : exF l bad good i (k + 1) = exF l bad good i k := by
  unfold exF; rw [List.range_succ, List.all_append, List.all_cons, List.all_nil, h, Bool.and_true, Bool.and_true]
theorem exF_F {l : List Bat} {bad good i k : Nat} (h : exT l bad good i k = false) : exF l bad good i (k + 1) = false := by
  unfold exF; rw [List.range_succ, List.all_append, List.all_cons, List.all_nil, h, Bool.false_and, Bool.and_false]
theorem exT_eq {l : List Bat} {bad good i k : Nat} {c : Bool} (h : (bad.testBit k && !(backN l k).testBit i || good.testBit k && (backN l k).testBit i) = c) : exT l bad good i k = !c := by
  subst h
  unfold exT
  cases bad.testBit k <;> cases good.testBit k <;> cases (backN l k).testBit i <;> rfl
/-! ### What is called back -/
theorem bits_T {a g : Nat} (h : a.testBit g = true) : bitsN a (g + 1) = bitsN a g ++ [g] := by rw [bitsN_succ, if_pos h]
theorem bits_F {a g : Nat} (h : a.testBit g = false) : bitsN a (g + 1) = bitsN a g := by rw [bitsN_succ, if_neg (by rw [h]; decide)]
def callG (l : List Bat) (can g : Nat) : Nat := orL ((bitsN can g).map (ownN l))
def spanG (l : List Bat) (can g : Nat) : Int × Int := spF ((bitsN can g).map (cntN l))
def fstG (can g : Nat) : Bool := (bitsN can g).isEmpty
def innS (l : List Bat) (can i k : Nat) : Nat := callG l can i ||| lowN (ownN l i) k
theorem callG_T {l : List Bat} {can g : Nat} (h : can.testBit g = true) : callG l can (g + 1) = innS l can g l.length := by
  unfold callG innS callG
  rw [bits_T h, List.map_append, List.map_cons, List.map_nil, orL_snoc, lowN_all (own_lt l g)]
theorem callG_F {l : List Bat} {can g : Nat} (h : can.testBit g = false) : callG l can (g + 1) = callG l can g := by unfold callG; rw [bits_F h]
theorem spanG_F {l : List Bat} {can g : Nat} (h : can.testBit g = false) : spanG l can (g + 1) = spanG l can g := by unfold spanG; rw [bits_F h]
theorem fstG_F {can g : Nat} (h : can.testBit g = false) : fstG can (g + 1) = fstG can g := by unfold fstG; rw [bits_F h]
theorem fstG_T {can g : Nat} (h : can.testBit g = true) : fstG can (g + 1) = false := by unfold fstG; rw [bits_T h]; simp
theorem spanG_0 {l : List Bat} {can g : Nat} (h : can.testBit g = true) (h0 : fstG can g = true) : spanG l can (g + 1) = (min (cntN l g) (cntN l g), max (cntN l g) (cntN l g)) := by
  unfold fstG at h0
  unfold spanG
  rw [bits_T h, List.isEmpty_iff.1 h0]
  show (cntN l g, cntN l g) = _
  rw [Int.min_self, Int.max_self]
theorem spanG_T {l : List Bat} {can g : Nat} (h : can.testBit g = true) (h0 : fstG can g = false) : spanG l can (g + 1) = (min (spanG l can g).1 (cntN l g), max (spanG l can g).2 (cntN l g)) := by
  unfold fstG at h0
  unfold spanG
  rw [bits_T h, List.map_append]
  exact spF_snoc _ _ (by
    intro h2
    rw [List.map_eq_nil_iff] at h2
    rw [h2] at h0
    cases h0)
theorem innS_0 (l : List Bat) (can i : Nat) : innS l can i 0 = callG l can i := by unfold innS lowN setOf; rw [Nat.or_zero]
theorem innS_T {l : List Bat} {can i k : Nat} (h : (ownN l i).testBit k = true) : innS l can i (k + 1) = innS l can i k ||| 2 ^ k := by
  unfold innS; rw [lowN_succ, if_pos h, Nat.or_assoc]
theorem innS_F {l : List Bat} {can i k : Nat} (h : (ownN l i).testBit k = false) : innS l can i (k + 1) = innS l can i k := by
  unfold innS; rw [lowN_succ, if_neg (by rw [h]; decide)]
theorem callG_lt {l : List Bat} (h24 : l.length ≤ 24) (can g : Nat) : callG l can g < 2 ^ 24 := bit_lt fun i hi => by
  obtain ⟨n, hn, h2⟩ := (orL_bit _ i).1 hi
  obtain ⟨j, _, rfl⟩ := List.mem_map.1 hn
  have := bit_of_lt (own_lt l j) h2
  omega
theorem innS_lt {l : List Bat} (h24 : l.length ≤ 24) (can i k : Nat) : innS l can i k < 2 ^ 24 := by
  refine Nat.or_lt_two_pow (callG_lt h24 can i) (bit_lt fun x hx => ?_)
  unfold lowN at hx
  rw [setOf_bit, Bool.and_eq_true] at hx
  have := bit_of_lt (own_lt l i) hx.2
  omega
theorem sum_T {l : List Bat} {i k : Nat} (h : (ownN l i).testBit k = true) : sumK l (bitsN (ownN l i) (k + 1)) = sumK l (bitsN (ownN l i) k) + (bt l k).s := by rw [bits_T h, sumK_snoc]
theorem sum_F {l : List Bat} {i k : Nat} (h : (ownN l i).testBit k = false) : sumK l (bitsN (ownN l i) (k + 1)) = sumK l (bitsN (ownN l i) k) := by rw [bits_F h]
theorem rec_all {l : List Bat} (h24 : l.length ≤ 24) {can : Nat} (h : can < 2 ^ l.length) : callG l can l.length = callN l can ∧ spanG l can l.length = spanN l can := by
  unfold callG spanG callN spanN
  rw [bitsN_all h (by omega)]
  exact ⟨rfl, rfl⟩
/-! ### What batches have in common -/
def laT (l : List Bat) (own i k : Nat) : Bool := !(decide (k ≠ i) && own.testBit k && (backN l k).testBit i)
theorem laT_eq {l : List Bat} {own i k : Nat} {c : Bool} (h : (!decide ((k : Int) = (i : Int)) && own.testBit k && (backN l k).testBit i) = c) : laT l own i k = !c := by
  subst h
  unfold laT
  rw [show decide (k ≠ i) = !decide ((k : Int) = (i : Int)) from by by_cases h : k = i <;> simp [h] <;> omega]
theorem chk20 (l : List Bat) (s : Int) : chkE l [s, 0] = chkE l [s] := by
  unfold chkE
  have hp := (pw_B (Nat.zero_le l.length)).2
  have hp0 : pw 0 = 1 := rfl
  have h : inB 0 0 (pw l.length - 1) = true := by unfold inB; simp; omega
  simp [h]
def laF (l : List Bat) (own i k : Nat) : Bool := own.testBit i && (List.range k).all (laT l own i)
theorem laF_0 (l : List Bat) (own i : Nat) : laF l own i 0 = own.testBit i := by unfold laF; simp
theorem laF_T {l : List Bat} {own i k : Nat} (h : laT l own i k = true) : laF l own i (k + 1) = laF l own i k := by
  unfold laF; rw [List.range_succ, List.all_append, List.all_cons, List.all_nil, h, Bool.and_true, Bool.and_true]
theorem laF_F {l : List Bat} {own i k : Nat} (h : laT l own i k = false) : laF l own i (k + 1) = false := by
  unfold laF; rw [List.range_succ, List.all_append, List.all_cons, List.all_nil, h, Bool.false_and, Bool.and_false, Bool.and_false]
def laG (l : List Bat) (own i : Nat) : Bool := laF l own i l.length
theorem la_all {l : List Bat} (h24 : l.length ≤ 24) {own : Nat} (ho : own < 2 ^ l.length) : setOf (laG l own) l.length = lastN l own := by
  refine setOf_eq (bit_lt fun i hi => bit_of_lt ho ((last_bit h24 ho i).1 hi).1) fun i hi => ?_
  rw [Bool.eq_iff_iff, last_bit h24 ho]
  unfold laG laF laT
  rw [Bool.and_eq_true, List.all_eq_true]
  refine and_congr Iff.rfl ?_
  constructor
  · intro h k hk hne
    rw [ahead_bit, Bool.and_eq_true, decide_eq_true_eq] at hk
    have h2 := h k (List.mem_range.2 hk.1)
    rw [hk.2, decide_eq_true hne] at h2
    simpa using h2
  · intro h k hk
    have hk := List.mem_range.1 hk
    by_cases hne : k = i
    · rw [decide_eq_false (by omega)]; rfl
    · cases hb : (backN l k).testBit i with
      | false => simp
      | true => rw [h k (by rw [ahead_bit, decide_eq_true hk, hb]; rfl) hne]; simp
end Go.Proofs.YtlalikkkobpfgaaDoor
