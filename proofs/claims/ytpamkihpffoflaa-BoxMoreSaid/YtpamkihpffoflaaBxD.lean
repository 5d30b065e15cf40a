/-
  The boxes' data, as cells.
-/
import Derived.Test.YtpamkihpffoflaaAfD
import Derived.Test.YtpamkihpffoflaaBxQ
import Derived.Test.YtpamkihpffoflaaPlI
set_option linter.unusedVariables false
set_option linter.unusedSimpArgs false
namespace Go.Proofs.Ytpamkihpffoflaa
open Go.AF
def i1 (x : Int) : List PV := [.int .i64 x]
def intsV (v : List Int) : PV := .is (v.flatMap i1) v.length
/-- A pile as it comes. -/
structure Pr where
  s : Int
  m : Int
def Pr.cells (p : Pr) : List PV := [.int .i64 p.s, .int .i64 p.m]
def rawV (l : List Pr) : PV := .is (l.flatMap Pr.cells) l.length
def Pl.cells (p : Pl) : List PV := [.int .i64 (p.s : Int), .int .i64 p.m]
def plV (l : List Pl) : PV := .is (l.flatMap Pl.cells) l.length
def bigN : Nat := 9223372036854775807
/-- Piles that are valid, for so many shades. -/
def okP (n : Nat) (l : List Pl) : Prop := l.length ≤ 8 ∧ ∀ p ∈ l, p.s < 2 ^ n ∧ 0 ≤ p.m ∧ p.m ≤ 1048576
/-- Needs that are not too great. -/
def okV (v : List Int) : Prop := v.length ≤ 8 ∧ ∀ x ∈ v, 0 ≤ x ∧ x ≤ 1000000000000
theorem okP.pos {n : Nat} {l : List Pl} (h : okP n l) : posP l := fun p hp => (h.2 p hp).2.1
theorem testBit_iff (s i : Nat) : s.testBit i = decide (((s / 2 ^ i % 2 : Nat) : Int) = 1) := by
  rw [Nat.testBit_eq_decide_div_mod_eq]
  congr 1
  exact propext ⟨fun h => by omega, fun h => by omega⟩
theorem testBit_and1 (s i : Nat) : s.testBit i = decide (((s / 2 ^ i &&& 1 : Nat) : Int) = 1) := by
  rw [testBit_iff, Nat.and_one_is_mod]
theorem pow_le {n : Nat} (h : n ≤ 60) : 2 ^ n ≤ 1152921504606846976 := Nat.pow_le_pow_right (by omega) h
theorem pow8 {n : Nat} (h : n ≤ 8) : 2 ^ n ≤ 256 := Nat.pow_le_pow_right (by omega) h
theorem pow_pos' (n : Nat) : 1 ≤ 2 ^ n := Nat.two_pow_pos n
def sumN (v : List Int) (s k : Nat) : Int := isum (fun i => if s.testBit i then v[i]?.getD 0 else 0) k
theorem sumN_succ {v : List Int} {s k : Nat} (h : k < v.length) : sumN v s (k + 1) = sumN v s k + if s.testBit k then v[k] else 0 := by
  simp only [sumN, isum]
  rw [List.getElem?_eq_getElem h, Option.getD_some]
theorem sumN_B {v : List Int} (h : okV v) (s k : Nat) (hk : k ≤ v.length) : 0 ≤ sumN v s k ∧ sumN v s k ≤ 8000000000000 := by
  have h1 := isum_B (f := fun i => if s.testBit i then v[i]?.getD 0 else 0) (A := 0) (B := 1000000000000) k (fun j hj => by
    have := h.2 v[j] (List.getElem_mem _)
    rw [List.getElem?_eq_getElem (by omega), Option.getD_some]
    split <;> omega)
  have := h.1
  unfold sumN
  omega
theorem ofP_take {l : List Pl} {s k : Nat} (h : k < l.length) : ofP (l.take (k + 1)) s = ofP (l.take k) s + if l[k].s &&& s = 0 then 0 else l[k].m := by
  unfold ofP
  rw [← List.take_append_getElem h, List.map_append, List.sum_append]
  simp
theorem ofP_B {n : Nat} {l : List Pl} (h : okP n l) (s k : Nat) : 0 ≤ ofP (l.take k) s ∧ ofP (l.take k) s ≤ 8388608 := by
  have h1 : posP (l.take k) := fun p hp => (h.2 p (List.mem_of_mem_take hp)).2.1
  refine ⟨ofP_nonneg h1 s, ?_⟩
  have gen : ∀ l' : List Pl, (∀ p ∈ l', 0 ≤ p.m ∧ p.m ≤ 1048576) → ofP l' s ≤ 1048576 * (l'.length : Int) := by
    intro l'
    induction l' with
    | nil => intro _; simp [ofP]
    | cons p l' ih =>
      intro hp
      have := ih (fun q hq => hp q (by simp [hq]))
      have := hp p (by simp)
      rw [ofP_cons, List.length_cons]
      split <;> omega
  have := gen (l.take k) (fun p hp => (h.2 p (List.mem_of_mem_take hp)).2)
  have h2 : (l.take k).length ≤ 8 := by rw [List.length_take]; have := h.1; omega
  omega
theorem timesV_get {need : List Int} {b : Int} {k : Nat} (h : k < need.length) : (timesV need b).take (k + 1) = (timesV need b).take k ++ [need[k] * b] := by
  have h' : k < (timesV need b).length := by rw [timesV_length]; exact h
  rw [← List.take_append_getElem h']
  simp [timesV]
theorem tmodN (a b : Nat) : (a : Int).tmod (b : Int) = ((a % b : Nat) : Int) := rfl
theorem mul_B {x b : Int} (h0 : 0 ≤ x) (h1 : x ≤ 48) (b0 : 0 ≤ b) (b1 : b ≤ 10000000000) : 0 ≤ b * x ∧ b * x ≤ 480000000000 := by
  refine ⟨Int.mul_nonneg b0 h0, ?_⟩
  have h2 := Int.mul_le_mul_of_nonneg_left h1 b0
  omega
theorem timesV_ok {need : List Int} {b : Int} (hn : okN need) (h8 : need.length ≤ 8) (b0 : 0 ≤ b) (b1 : b ≤ 10000000000) : okV (timesV need b) := by
  refine ⟨by rw [timesV_length]; exact h8, fun x hx => ?_⟩
  obtain ⟨y, hy, rfl⟩ := List.mem_map.1 hx
  have h1 := hn y hy
  have h2 := mul_B h1.1 h1.2 b0 b1
  rw [Int.mul_comm]
  omega
theorem sumS_sumN (v : List Int) (s : Nat) : sumS v s = sumN v s v.length := rfl
theorem sumS_B {v : List Int} (h : okV v) (s : Nat) : 0 ≤ sumS v s ∧ sumS v s ≤ 8000000000000 := sumN_B h s _ (Nat.le_refl _)
theorem ofP_BB {n : Nat} {l : List Pl} (h : okP n l) (s : Nat) : 0 ≤ ofP l s ∧ ofP l s ≤ 8388608 := by
  have := ofP_B h s l.length
  rwa [List.take_length] at this
theorem lkF_B {v : List Int} {l : List Pl} {n : Nat} (hv : okV v) (hl : okP n l) : ∀ k, (lkF v l k).1 ≤ k ∧ 0 ≤ (lkF v l k).2 ∧ (lkF v l k).2 ≤ 8000000000000
  | 0 => ⟨Nat.le_refl _, Int.le_refl _, by show (0 : Int) ≤ _; omega⟩
  | k + 1 => by
    have ih := lkF_B hv hl k
    have h1 := sumS_B hv (k + 1)
    have h2 := ofP_BB hl (k + 1)
    simp only [lkF]
    split <;> (try dsimp only) <;> omega
/-! ### What is valid -/
def okPr (n : Nat) (p : Pr) : Prop := (0 ≤ p.s ∧ p.s ≤ ((2 ^ n : Nat) : Int) - 1) ∧ 0 ≤ p.m ∧ p.m ≤ 1048576
instance (n : Nat) (p : Pr) : Decidable (okPr n p) := by unfold okPr; infer_instance
def Vld (need : List Int) (l : List Pr) : Prop := (1 ≤ need.length ∧ need.length ≤ 8) ∧ l.length ≤ 8 ∧ okN need ∧ (∀ p ∈ l, okPr need.length p) ∧ 0 < need.sum
instance (need : List Int) : Decidable (okN need) := by unfold okN; infer_instance
instance (need : List Int) (l : List Pr) : Decidable (Vld need l) := by unfold Vld; infer_instance
theorem take_sum {v : List Int} {k : Nat} (h : k < v.length) : (v.take (k + 1)).sum = (v.take k).sum + v[k] := by
  rw [← List.take_append_getElem h, List.sum_append]
  simp
theorem okN_take {v : List Int} {P : Int → Prop} {k : Nat} (h : k < v.length) (h1 : ∀ x ∈ v.take k, P x) (h2 : P v[k]) : ∀ x ∈ v.take (k + 1), P x := by
  intro x hx
  rw [← List.take_append_getElem h] at hx
  rcases List.mem_append.1 hx with h3 | h3
  · exact h1 x h3
  · simp at h3; subst h3; exact h2
theorem okP_take {l : List Pr} {P : Pr → Prop} {k : Nat} (h : k < l.length) (h1 : ∀ x ∈ l.take k, P x) (h2 : P l[k]) : ∀ x ∈ l.take (k + 1), P x := by
  intro x hx
  rw [← List.take_append_getElem h] at hx
  rcases List.mem_append.1 hx with h3 | h3
  · exact h1 x h3
  · simp at h3; subst h3; exact h2
/-- Valid piles, with their sets as numbers without a sign. -/
def toPl (l : List Pr) : List Pl := l.map fun p => ⟨p.s.toNat, p.m⟩
theorem toPl_ok {need : List Int} {l : List Pr} (h : Vld need l) : okP need.length (toPl l) := by
  obtain ⟨h1, h2, h3, h4, h5⟩ := h
  refine ⟨by unfold toPl; rw [List.length_map]; exact h2, fun p hp => ?_⟩
  obtain ⟨q, hq, rfl⟩ := List.mem_map.1 hp
  have h6 := h4 q hq
  unfold okPr at h6
  have := pow_pos' need.length
  exact ⟨by dsimp only; omega, h6.2.1, h6.2.2⟩
theorem toPl_raw {need : List Int} {l : List Pr} (h : Vld need l) : rawV l = plV (toPl l) := by
  unfold rawV plV toPl
  rw [List.length_map, List.flatMap_map]
  congr 1
  have h4 := h.2.2.2.1
  revert h4
  generalize need.length = n
  intro h4
  clear h
  induction l with
  | nil => rfl
  | cons p l ih =>
    rw [List.flatMap_cons, List.flatMap_cons, ih (fun q hq => h4 q (by simp [hq]))]
    congr 1
    have h6 := (h4 p (by simp)).1.1
    unfold Pr.cells Pl.cells
    dsimp only
    rw [Int.toNat_of_nonneg h6]
theorem okN_okV {need : List Int} (hn : okN need) (h8 : need.length ≤ 8) : okV need := ⟨h8, fun x hx => by have := hn x hx; omega⟩
theorem sumS_N {need : List Int} (hn : okN need) (h8 : need.length ≤ 8) (s : Nat) : 0 ≤ sumS need s ∧ sumS need s ≤ 384 := by
  have h1 := isum_B (f := fun i => if s.testBit i then need[i]?.getD 0 else 0) (A := 0) (B := 48) need.length (fun j hj => by
    have := hn need[j] (List.getElem_mem _)
    rw [List.getElem?_eq_getElem hj, Option.getD_some]
    split <;> omega)
  unfold sumS
  omega
theorem mul_BB {a b A B : Int} (a0 : 0 ≤ a) (a1 : a ≤ A) (b0 : 0 ≤ b) (b1 : b ≤ B) : 0 ≤ a * b ∧ a * b ≤ A * B :=
  ⟨Int.mul_nonneg a0 b0, Int.mul_le_mul a1 b1 b0 (Int.le_trans a0 a1)⟩
theorem div_B {a b : Int} (a0 : 0 ≤ a) (b0 : 0 ≤ b) : a.tdiv b = a / b ∧ 0 ≤ a / b ∧ a / b ≤ a :=
  ⟨Int.tdiv_eq_ediv_of_nonneg a0, Int.ediv_nonneg a0 b0, Int.ediv_le_self b a0⟩
theorem quF_B {need : List Int} {l : List Pl} {n : Nat} (hn : okN need) (h8 : need.length ≤ 8) (hl : okP n l) : ∀ k, -1 ≤ quF need l k ∧ quF need l k ≤ 8388608
  | 0 => ⟨Int.le_refl _, by show (-1 : Int) ≤ _; omega⟩
  | k + 1 => by
    have ih := quF_B hn h8 hl k
    have h1 := ofP_BB hl (k + 1)
    have h2 := div_B h1.1 (sumS_N hn h8 (k + 1)).1
    simp only [quF]
    split <;> omega
theorem pfF_stay {need : List Int} {l : List Pl} {b : Int} {k : Nat} (h : pfF need l b k ≠ 0) : ∀ d, pfF need l b (k + d) = pfF need l b k
  | 0 => rfl
  | d + 1 => by
    have ih := pfF_stay h d
    show pfF need l b ((k + d) + 1) = _
    rw [pfF, ih, if_neg h]
def checkR (need : List Int) (l : List Pr) (b : Int) : Int := if Vld need l then (if 0 ≤ b ∧ b ≤ 1048576 then 0 else 2) else 1
/-- How many boxes, the set that proves it, and what is wrong. -/
def mostR (need : List Int) (l : List Pr) : Int × Int × Int :=
  if Vld need l then
    (if pfF need (toPl l) (quF need (toPl l) (allS need.length) + 1) (allS need.length) = 0 then (0, 0, 4)
     else (quF need (toPl l) (allS need.length), (pfF need (toPl l) (quF need (toPl l) (allS need.length) + 1) (allS need.length) : Int), 0))
  else (0, 0, 1)
theorem pfF_le {need : List Int} {l : List Pl} {b : Int} {k m : Nat} (hk : k ≤ m) (h : pfF need l b k ≠ 0) : pfF need l b m = pfF need l b k := by
  obtain ⟨d, rfl⟩ := Nat.exists_eq_add_of_le hk
  exact pfF_stay h d
def nBad (x : Int) : Bool := !(decide (0 ≤ x) && decide (x ≤ 48))
def pBad (n : Nat) (p : Pr) : Bool := !(decide (0 ≤ p.s) && decide (p.s ≤ ((2 ^ n : Nat) : Int) - 1)) || !(decide (0 ≤ p.m) && decide (p.m ≤ 1048576))
/-- The greatest of the first ones. -/
def mxF (v : List Int) : Nat → Int
  | 0 => v[0]?.getD 0
  | k + 1 => max (mxF v k) (v[k + 1]?.getD 0)
theorem take_nonneg {v : List Int} (h : okN v) (k : Nat) : 0 ≤ (v.take k).sum := by
  have gen : ∀ l : List Int, (∀ x ∈ l, 0 ≤ x) → 0 ≤ l.sum := by
    intro l
    induction l with
    | nil => intro _; simp
    | cons x l ih =>
      intro hx
      have := ih fun y hy => hx y (by simp [hy])
      have := hx x (by simp)
      simp only [List.sum_cons]
      omega
  exact gen _ fun x hx => (h x (List.mem_of_mem_take hx)).1
theorem mxF_pos {v : List Int} (h : okN v) : ∀ k, k < v.length → (0 < mxF v k ↔ 0 < (v.take (k + 1)).sum)
  | 0, hk => by
    rw [take_sum hk]
    simp [mxF, List.getElem?_eq_getElem hk]
  | k + 1, hk => by
    have ih := mxF_pos h k (by omega)
    have h1 := take_nonneg h (k + 1)
    have h2 := (h v[k + 1] (List.getElem_mem _)).1
    rw [take_sum hk]
    simp only [mxF, List.getElem?_eq_getElem hk, Option.getD_some]
    rcases Int.le_total (mxF v k) v[k + 1] with h3 | h3
    · rw [Int.max_eq_right h3]; omega
    · rw [Int.max_eq_left h3]; omega
theorem okN_any {v : List Int} : v.any nBad = false ↔ okN v := by
  rw [List.any_eq_false]
  constructor
  · intro h x hx
    have := h x hx
    unfold nBad at this
    simpa using this
  · intro h x hx
    have := h x hx
    unfold nBad
    simpa using this
theorem okPr_any {l : List Pr} {n : Nat} : l.any (pBad n) = false ↔ ∀ p ∈ l, okPr n p := by
  rw [List.any_eq_false]
  constructor
  · intro h x hx
    have := h x hx
    unfold pBad at this
    unfold okPr
    simpa using this
  · intro h x hx
    have := h x hx
    unfold okPr at this
    unfold pBad
    simpa using this
theorem vld_eq (need : List Int) (l : List Pr) : (((((decide (1 ≤ (need.length : Int)) && decide ((need.length : Int) ≤ 8)) && decide ((l.length : Int) ≤ 8)) && !(need.any nBad)) && !(l.any (pBad need.length))) && decide (0 < mxF need (need.length - 1))) = decide (Vld need l) := by
  rw [Bool.eq_iff_iff, decide_eq_true_iff (p := Vld need l)]
  unfold Vld
  simp only [Bool.and_eq_true, decide_eq_true_eq, Bool.not_eq_true', okN_any, okPr_any]
  constructor
  · rintro ⟨⟨⟨⟨⟨a, b⟩, c⟩, d⟩, e⟩, f⟩
    have g := (mxF_pos d (need.length - 1) (by omega)).1 f
    rw [show need.length - 1 + 1 = need.length by omega, List.take_length] at g
    exact ⟨⟨by omega, by omega⟩, by omega, d, e, g⟩
  · rintro ⟨⟨a, b⟩, c, d, e, f⟩
    refine ⟨⟨⟨⟨⟨by omega, by omega⟩, by omega⟩, d⟩, e⟩, (mxF_pos d (need.length - 1) (by omega)).2 ?_⟩
    rw [show need.length - 1 + 1 = need.length by omega, List.take_length]
    exact f
def lackR (need : List Int) (l : List Pr) (b : Int) : Int × Int × Int :=
  if checkR need l b = 0 then
    (if (lkF (timesV need b) (toPl l) (allS need.length)).2 = 0 then (0, 0, 4)
     else (((lkF (timesV need b) (toPl l) (allS need.length)).1 : Int), (lkF (timesV need b) (toPl l) (allS need.length)).2, 0))
  else (0, 0, checkR need l b)
theorem checkR_zero {need : List Int} {l : List Pr} {b : Int} (h : checkR need l b = 0) : Vld need l ∧ 0 ≤ b ∧ b ≤ 1048576 := by
  unfold checkR at h
  split at h
  · rename_i hV
    split at h
    · rename_i hb; exact ⟨hV, hb⟩
    · omega
  · omega
/-- What is needed, of which the first ones are multiplied. -/
def updL (need : List Int) (b : Int) (k : Nat) : List Int := (timesV need b).take k ++ need.drop k
theorem updL_length (need : List Int) (b : Int) (k : Nat) (h : k ≤ need.length) : (updL need b k).length = need.length := by
  unfold updL
  rw [List.length_append, List.length_take, List.length_drop, timesV_length]
  omega
theorem updL_get (need : List Int) (b : Int) (k : Nat) (h : k < need.length) : (updL need b k)[k]'(by rw [updL_length need b k (by omega)]; exact h) = need[k] := by
  unfold updL
  rw [List.getElem_append_right (by rw [List.length_take, timesV_length]; omega)]
  simp only [List.length_take, timesV_length, List.getElem_drop]
  congr 1
  omega
theorem updL_set (need : List Int) (b : Int) (k : Nat) (h : k < need.length) : (updL need b k).set k (need[k] * b) = updL need b (k + 1) := by
  unfold updL
  have hl : ((timesV need b).take k).length = k := by rw [List.length_take, timesV_length]; omega
  rw [List.set_append_right _ _ (by omega), hl, Nat.sub_self, timesV_get h, List.append_assoc]
  congr 1
  rw [List.drop_eq_getElem_cons h]
  rfl
theorem updL_full (need : List Int) (b : Int) : updL need b need.length = timesV need b := by
  unfold updL
  rw [List.drop_length, List.append_nil, List.take_of_length_le (by rw [timesV_length]; exact Nat.le_refl _)]
/-- The sets, as a slice. -/
def setsL (n : Nat) : List Nat := (List.range (allS n)).map (· + 1)
def sn (k : Nat) : List PV := [.int .i64 (k : Int)]
def setsV (n : Nat) : PV := .is ((setsL n).flatMap sn) (setsL n).length
theorem setsL_length (n : Nat) : (setsL n).length = allS n := by simp [setsL]
theorem setsL_get (n i : Nat) (h : i < (setsL n).length) : (setsL n)[i] = i + 1 := by simp [setsL]
end Go.Proofs.Ytpamkihpffoflaa
