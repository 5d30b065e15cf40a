/-
  Plain data of chapter 7: paint shops, what batches have had, and the next dip. No program in sight.
  Chapter 7: numbers in order, and the earliest hour of a dip. No program in sight.
  Chapter 7: the cells of a shop at work, and what bounds its numbers. No program in sight.
  Chapter 7: numbers put in order, one swap after the other. No program in sight.
  Chapter 7: the times of an order. No program in sight.
  Chapter 7: what Check says of a plan, and who can be wet. No program in sight.
  Chapter 7: the best order, as it is looked for. No program in sight.
  Chapter 7: the document's examples, by the kernel. No program in sight.
  Chapter 7: what the statements look at. No program in sight.
  Chapter 7: what the document says is valid. No program in sight.
  Chapter 7: the last dip of a batch, as the document looks for it, and what the shop holds. No program in sight.
  Chapter 7: what the document sees of a dip. No program in sight.
  Chapter 7: the error of a dip, as the document says it and as the shop finds it. No program in sight.
  Chapter 7: the document's error of a dip is the shop's. No program in sight.
  Chapter 7: the dips of an order at its times; the earliest hour is the first one that the document finds. No program in sight.
  Chapter 7: why an order has no times; what Dips answers. No program in sight.
  Chapter 7: the dips of an order that have ended. No program in sight.
  From what the statements' arguments of chapter 7 may hold to plain data. No condition.
-/
import Derived.Test.YtibgdkaipleajaaPm
import Derived.Test.YtibgdkaipleajaaAgD
import Derived.KernelRfl
section
set_option linter.unusedVariables false
set_option linter.unusedSimpArgs false
namespace Go.Proofs.Ytibgdkaipleajaa
open Go.AF
def bigN : Nat := 9223372036854775807
def inB (n lo hi : Int) : Bool := decide (lo ≤ n) && decide (n ≤ hi)
def i1 (n : Int) : List PV := [.int .i64 n]
def intsV (l : List Int) : PV := .is (l.flatMap i1) l.length
def nt (l : List Int) (i : Nat) : Int := l.getD i 0
theorem nt_get {l : List Int} : ∀ k (h : k < l.length), l[k] = nt l k := fun k h => by
  unfold nt
  rw [List.getD_eq_getElem?_getD, List.getElem?_eq_getElem h]; rfl
theorem nt_mem {l : List Int} {k : Nat} (h : k < l.length) : nt l k ∈ l := by rw [← nt_get k h]; exact List.getElem_mem _
/-- The first at which a predicate holds, as an index; below 0: none. -/
def idxF {α : Type} (p : α → Bool) (xs : List α) : Int := match xs.findIdx? p with
  | some i => (i : Int)
  | none => -1
theorem idxF_at {α : Type} (p : α → Bool) (xs : List α) (i : Nat) (hi : i < xs.length) (hb : ∀ j (h : j < i), p (xs[j]'(by omega)) = false) (hp : p xs[i] = true) : idxF p xs = (i : Int) := by
  unfold idxF
  have : xs.findIdx? p = some i := by
    rw [List.findIdx?_eq_some_iff_getElem]
    exact ⟨hi, hp, fun j h => by rw [hb j h]; decide⟩
  rw [this]
theorem idxF_none {α : Type} (p : α → Bool) (xs : List α) (hb : ∀ j (h : j < xs.length), p xs[j] = false) : idxF p xs = -1 := by
  unfold idxF
  have : xs.findIdx? p = none := by
    rw [List.findIdx?_eq_none_iff]
    intro x hx
    obtain ⟨j, hj, rfl⟩ := List.getElem_of_mem hx
    exact hb j hj
  rw [this]
theorem idxF_any {α : Type} (p : α → Bool) (xs : List α) : decide (idxF p xs ≥ 0) = xs.any p := by
  by_cases h : xs.any p = true
  · rw [h]
    unfold idxF
    cases e : xs.findIdx? p with
    | some i => simp
    | none =>
      rw [List.findIdx?_eq_none_iff] at e
      obtain ⟨x, hx, h2⟩ := List.any_eq_true.1 h
      rw [e x hx] at h2
      cases h2
  · have h' : xs.any p = false := by simpa using h
    rw [h', idxF_none p xs fun j hj => by
      cases e : p xs[j] with
      | false => rfl
      | true => exact absurd (List.any_eq_true.2 ⟨_, List.getElem_mem hj, e⟩) h]
    decide
structure Spn where
  lo : Int
  hi : Int
def Spn.cells (s : Spn) : List PV := [.int .i64 s.lo, .int .i64 s.hi]
structure Cot where
  dry : List Spn
  late : Int
def spnsV (l : List Spn) : PV := .is (l.flatMap Spn.cells) l.length
def Cot.cells (b : Cot) : List PV := [spnsV b.dry, .int .i64 b.late]
def cotsV (l : List Cot) : PV := .is (l.flatMap Cot.cells) l.length
structure Pnt where
  dip : Int
  racks : Int
  bs : List Cot
def pntC (p : Pnt) : List PV := [.int .i64 p.dip, .int .i64 p.racks, cotsV p.bs]
def pntV (p : Pnt) : PV := .agg (pntC p)
structure Dp where
  b : Int
  h : Int
def Dp.cells (x : Dp) : List PV := [.int .i64 x.b, .int .i64 x.h]
def dpsV (l : List Dp) : PV := .is (l.flatMap Dp.cells) l.length
def spt (l : List Spn) (i : Nat) : Spn := l.getD i ⟨0, 0⟩
theorem spt_get {l : List Spn} : ∀ k (h : k < l.length), l[k] = spt l k := fun k h => by
  unfold spt
  rw [List.getD_eq_getElem?_getD, List.getElem?_eq_getElem h]; rfl
theorem spt_mem {l : List Spn} {k : Nat} (h : k < l.length) : spt l k ∈ l := by rw [← spt_get k h]; exact List.getElem_mem _
def cot (l : List Cot) (i : Nat) : Cot := l.getD i ⟨[], 0⟩
theorem cot_get {l : List Cot} : ∀ k (h : k < l.length), l[k] = cot l k := fun k h => by
  unfold cot
  rw [List.getD_eq_getElem?_getD, List.getElem?_eq_getElem h]; rfl
theorem cot_mem {l : List Cot} {k : Nat} (h : k < l.length) : cot l k ∈ l := by rw [← cot_get k h]; exact List.getElem_mem _
def dpt (l : List Dp) (i : Nat) : Dp := l.getD i ⟨0, 0⟩
theorem dpt_get {l : List Dp} : ∀ k (h : k < l.length), l[k] = dpt l k := fun k h => by
  unfold dpt
  rw [List.getD_eq_getElem?_getD, List.getElem?_eq_getElem h]; rfl
/-! ### What is valid -/
def sumD (l : List Cot) : Nat → Nat
  | 0 => 0
  | k + 1 => sumD l k + (cot l k).dry.length
def coats (p : Pnt) : Nat := sumD p.bs p.bs.length
def dryB (s : Spn) : Bool := decide (s.lo < 0) || decide (s.lo > s.hi) || decide (s.hi > 1000)
def cotB (b : Cot) : Bool := decide ((b.dry.length : Int) = 0) || !inB b.late 0 1000 || b.dry.any dryB
def pntB (p : Pnt) : Bool := inB p.dip 1 24 && inB p.racks 1 4 && inB (p.bs.length : Int) 1 4 && !p.bs.any cotB && decide ((coats p : Int) ≤ 9)
structure Ok (p : Pnt) : Prop where
  dip : 1 ≤ p.dip ∧ p.dip ≤ 24
  racks : 1 ≤ p.racks ∧ p.racks ≤ 4
  n : 1 ≤ p.bs.length ∧ p.bs.length ≤ 4
  late : ∀ b ∈ p.bs, 0 ≤ b.late ∧ b.late ≤ 1000
  some : ∀ b ∈ p.bs, 0 < b.dry.length
  dry : ∀ b ∈ p.bs, ∀ s ∈ b.dry, 0 ≤ s.lo ∧ s.lo ≤ s.hi ∧ s.hi ≤ 1000
  all : coats p ≤ 9
theorem pnt_ok {p : Pnt} (h : pntB p = true) : Ok p := by
  unfold pntB inB at h
  simp only [Bool.and_eq_true, decide_eq_true_eq, Bool.not_eq_true', List.any_eq_false] at h
  obtain ⟨⟨⟨⟨h1, h2⟩, h3⟩, h4⟩, h5⟩ := h
  have hb : ∀ b ∈ p.bs, cotB b = false := fun b hb => by simpa using h4 b hb
  have hc : ∀ b ∈ p.bs, ¬ (b.dry.length : Int) = 0 ∧ (0 ≤ b.late ∧ b.late ≤ 1000) ∧ b.dry.any dryB = false := fun b hb' => by
    have := hb b hb'
    unfold cotB inB at this
    simp only [Bool.or_eq_false_iff, decide_eq_false_iff_not, Bool.not_eq_false', Bool.and_eq_true, decide_eq_true_eq] at this
    exact ⟨this.1.1, this.1.2, this.2⟩
  refine ⟨h1, h2, by omega, fun b hb' => (hc b hb').2.1, fun b hb' => by have := (hc b hb').1; omega, fun b hb' s hs => ?_, by omega⟩
  have := List.any_eq_false.1 (hc b hb').2.2 s hs
  unfold dryB at this
  simp at this
  omega
theorem sumD_mono (l : List Cot) : ∀ {i k : Nat}, i < k → sumD l i + (cot l i).dry.length ≤ sumD l k := by
  intro i k h
  induction k with
  | zero => omega
  | succ k ih =>
    rw [sumD]
    rcases Nat.lt_or_ge i k with h1 | h1
    · have := ih h1; omega
    · obtain rfl : i = k := by omega
      omega
/-! ### A shop at work -/
structure Hng where
  many : Nat
  fin : Int
  could : Int
  surely : Int
def Hng.cells (h : Hng) : List PV := [.int .i64 (h.many : Int), .int .i64 h.fin, .int .i64 h.could, .int .i64 h.surely]
structure Shp where
  had : Nat → Hng
  fr : Int
def shp0 : Shp := ⟨fun _ => ⟨0, 0, 0, 0⟩, 0⟩
def hadL (S : Shp) : List Hng := (List.range 4).map S.had
def shpL (p : Pnt) (S : Shp) : List PV := pntC p ++ (hadL S).flatMap Hng.cells ++ [.int .i64 S.fr]
/-- What is seen of a batch. -/
def hangB (S : Shp) (but hour : Int) (i : Nat) : Bool := !decide ((i : Int) = but) && decide (((S.had i).many : Int) > 0) && decide (hour < (S.had i).surely)
def hangF (S : Shp) (but hour : Int) (k : Nat) : List Int := ((List.range k).filter (hangB S but hour)).map fun i => (S.had i).surely
def hangL (p : Pnt) (S : Shp) (but hour : Int) : List Int := hangF S but hour p.bs.length
def hangX (l : List Int) : List (List V) := l.map fun n => [V.p (.int .i64 n)]
theorem hangF_T {S : Shp} {but hour : Int} {k : Nat} (h : hangB S but hour k = true) : hangF S but hour (k + 1) = hangF S but hour k ++ [(S.had k).surely] := by
  unfold hangF; rw [List.range_succ, List.filter_append, List.map_append]; simp [h]
theorem hangF_F {S : Shp} {but hour : Int} {k : Nat} (h : hangB S but hour k = false) : hangF S but hour (k + 1) = hangF S but hour k := by
  unfold hangF; rw [List.range_succ, List.filter_append, List.map_append]; simp [h]
theorem hangF_pre (S : Shp) (but hour : Int) {p q : Nat} (h : p ≤ q) : hangF S but hour p <+: hangF S but hour q := by
  induction q with
  | zero => rw [show p = 0 by omega]; exact List.prefix_refl _
  | succ q ih =>
    rcases Nat.lt_or_ge p (q + 1) with h1 | h1
    · refine (ih (by omega)).trans ?_
      cases hq : hangB S but hour q with
      | true => rw [hangF_T hq]; exact List.prefix_append _ _
      | false => rw [hangF_F hq]; exact List.prefix_refl _
    · obtain rfl : p = q + 1 := by omega
      exact List.prefix_refl _
theorem hangX_at {p : Pnt} {S : Shp} {but hour : Int} {k : Nat} (hk : k < p.bs.length) (h : hangB S but hour k = true) : (hangX (hangL p S but hour))[(hangF S but hour k).length]? = some [V.p (.int .i64 (S.had k).surely)] := by
  have h1 := hangF_pre S but hour (show k + 1 ≤ p.bs.length by omega)
  rw [hangF_T h] at h1
  obtain ⟨t, ht⟩ := h1
  unfold hangX hangL
  rw [← ht, List.getElem?_map]
  simp
theorem hangX_len (l : List Int) : (hangX l).length = l.length := by unfold hangX; rw [List.length_map]
theorem hangX_get {l : List Int} {k : Nat} {x : List V} (h : (hangX l)[k]? = some x) : ∃ n, l[k]? = some n ∧ x = [V.p (.int .i64 n)] := by
  unfold hangX at h
  rw [List.getElem?_map, Option.map_eq_some_iff] at h
  obtain ⟨q, h1, h2⟩ := h
  exact ⟨q, h1, h2.symm⟩
theorem hangF_len (S : Shp) (but hour : Int) (k : Nat) : (hangF S but hour k).length ≤ k := by
  unfold hangF
  rw [List.length_map]
  exact Nat.le_trans (List.length_filter_le _ _) (by rw [List.length_range]; exact Nat.le_refl _)
/-! ### Numbers in order -/
def insI (n : Int) : List Int → List Int
  | [] => [n]
  | x :: l => if n < x then n :: x :: l else x :: insI n l
def sortI : List Int → List Int
  | [] => []
  | n :: l => insI n (sortI l)
/-! ### The next dip -/
def isLateB (p : Pnt) (S : Shp) (b h : Int) : Bool := decide (((S.had b.toNat).many : Int) > 0) && decide (h > (S.had b.toNat).could + (cot p.bs b.toNat).late)
def isWetB (S : Shp) (b h : Int) : Bool := decide (((S.had b.toNat).many : Int) > 0) && decide (h < (S.had b.toNat).surely)
def isFullB (p : Pnt) (S : Shp) (b h : Int) : Bool := decide (((hangL p S b (h + p.dip)).length : Int) ≥ p.racks)
def mayE (p : Pnt) (S : Shp) (b : Int) : Int := if (!inB b 0 ((p.bs.length : Int) - 1)) = true then 2 else if ((S.had b.toNat).many : Int) ≥ ((cot p.bs b.toNat).dry.length : Int) then 9 else 0
def hngN (p : Pnt) (S : Shp) (b : Nat) (h : Int) : Hng := ⟨(S.had b).many + 1, h + p.dip, h + p.dip + (spt (cot p.bs b).dry (S.had b).many).lo, h + p.dip + (spt (cot p.bs b).dry (S.had b).many).hi⟩
def dipN (p : Pnt) (S : Shp) (b : Nat) (h : Int) : Shp := ⟨fun i => if i = b then hngN p S b h else S.had i, h + p.dip⟩
def hourN (S : Shp) (b : Nat) : Int := if ((S.had b).many : Int) > 0 then max S.fr (S.had b).surely else S.fr
def timeN (p : Pnt) (S : Shp) (b : Nat) : Int :=
  if ((hangL p S (b : Int) (hourN S b + p.dip)).length : Int) ≥ p.racks then max (hourN S b) (nt (sortI (hangL p S (b : Int) (hourN S b + p.dip))) ((hangL p S (b : Int) (hourN S b + p.dip)).length - p.racks.toNat) - p.dip) else hourN S b
/-! ### The cells of a shop -/
theorem hadL_len (S : Shp) : (hadL S).length = 4 := by unfold hadL; simp
theorem hadL_get (S : Shp) : ∀ k (h : k < (hadL S).length), (hadL S)[k] = S.had k := fun k h => by
  have h4 : k < 4 := by rwa [hadL_len] at h
  have : k = 0 ∨ k = 1 ∨ k = 2 ∨ k = 3 := by omega
  rcases this with rfl | rfl | rfl | rfl <;> rfl
theorem shp_cell (p : Pnt) (S : Shp) {i f : Nat} (hi : i < 4) (hf : f < 4) {v : PV} (hv : (S.had i).cells[f]? = some v) : ((shpL p S).map V.p)[3 + (i * 4 + f)]? = some (.p v) := by
  have : i = 0 ∨ i = 1 ∨ i = 2 ∨ i = 3 := by omega
  have hf' : f = 0 ∨ f = 1 ∨ f = 2 ∨ f = 3 := by omega
  rcases this with rfl | rfl | rfl | rfl <;> rcases hf' with rfl | rfl | rfl | rfl <;> exact congrArg (Option.map V.p) hv
end Go.Proofs.Ytibgdkaipleajaa
end

section
set_option linter.unusedVariables false
set_option linter.unusedSimpArgs false
namespace Go.Proofs.Ytibgdkaipleajaa
open Go.AF
def Srt (l : List Int) : Prop := ∀ i j (hj : j < l.length) (hi : i < j), l[i]'(by omega) ≤ l[j]
theorem insI_len (n : Int) : ∀ l : List Int, (insI n l).length = l.length + 1
  | [] => rfl
  | x :: l => by
    rw [insI]
    split
    · rfl
    · rw [List.length_cons, insI_len n l, List.length_cons]
theorem insI_perm (n : Int) : ∀ l : List Int, List.Perm (insI n l) (n :: l)
  | [] => List.Perm.refl _
  | x :: l => by
    rw [insI]
    split
    · exact List.Perm.refl _
    · exact ((insI_perm n l).cons x).trans (List.Perm.swap n x l)
theorem sortI_perm : ∀ l : List Int, List.Perm (sortI l) l
  | [] => List.Perm.refl _
  | n :: l => (insI_perm n _).trans ((sortI_perm l).cons n)
theorem sortI_len (l : List Int) : (sortI l).length = l.length := (sortI_perm l).length_eq
theorem insI_pw (n : Int) : ∀ l : List Int, l.Pairwise (· ≤ ·) → (insI n l).Pairwise (· ≤ ·)
  | [], _ => List.pairwise_singleton _ _
  | x :: l, h => by
    rw [List.pairwise_cons] at h
    rw [insI]
    split
    · rename_i hn
      rw [List.pairwise_cons]
      refine ⟨fun y hy => ?_, List.pairwise_cons.2 h⟩
      rcases List.mem_cons.1 hy with rfl | hy
      · omega
      · have := h.1 y hy; omega
    · rename_i hn
      rw [List.pairwise_cons]
      refine ⟨fun y hy => ?_, insI_pw n l h.2⟩
      rcases List.mem_cons.1 ((insI_perm n l).mem_iff.1 hy) with rfl | hy
      · omega
      · exact h.1 y hy
theorem sortI_pw : ∀ l : List Int, (sortI l).Pairwise (· ≤ ·)
  | [] => List.Pairwise.nil
  | n :: l => insI_pw n _ (sortI_pw l)
/-- Lists in order that have the same numbers are the same. -/
theorem pw_perm : ∀ {a b : List Int}, a.Pairwise (· ≤ ·) → b.Pairwise (· ≤ ·) → List.Perm a b → a = b
  | [], b, _, _, h => (List.nil_perm.1 h).symm ▸ rfl
  | x :: a, [], _, _, h => absurd h.length_eq (by simp)
  | x :: a, y :: b, h1, h2, h => by
    rw [List.pairwise_cons] at h1 h2
    have hxy : x = y := by
      have hx : x ∈ y :: b := h.mem_iff.1 (by simp)
      have hy : y ∈ x :: a := h.mem_iff.2 (by simp)
      rcases List.mem_cons.1 hx with e | hx
      · exact e
      · rcases List.mem_cons.1 hy with e | hy
        · exact e.symm
        · have := h1.1 y hy
          have := h2.1 x hx
          omega
    subst hxy
    rw [pw_perm h1.2 h2.2 ((List.perm_cons x).1 h)]
theorem sort_of {a l : List Int} (h1 : a.Pairwise (· ≤ ·)) (h2 : List.Perm a l) : a = sortI l := pw_perm h1 (sortI_pw l) (h2.trans (sortI_perm l).symm)
/-! ### How many of a list are above a number -/
theorem above_many {s : List Int} (hs : s.Pairwise (· ≤ ·)) {k : Nat} (hk : k < s.length) {t : Int} (ht : t < nt s k) : s.length - k ≤ (s.filter fun x => decide (t < x)).length := by
  have e : s = s.take k ++ s.drop k := (List.take_append_drop k s).symm
  have hall : ∀ x ∈ s.drop k, decide (t < x) = true := fun x hx => by
    rw [List.drop_eq_getElem_cons hk] at hx
    rw [decide_eq_true_eq]
    rcases List.mem_cons.1 hx with rfl | hx
    · rw [nt_get k hk]; exact ht
    · have hp : (s.drop k).Pairwise (· ≤ ·) := hs.sublist (List.drop_sublist _ _)
      rw [List.drop_eq_getElem_cons hk, List.pairwise_cons] at hp
      have := hp.1 x hx
      rw [nt_get k hk] at this
      omega
  have h2 := congrArg (fun z => (List.filter (fun x => decide (t < x)) z).length) e
  rw [List.filter_append, List.length_append, List.filter_eq_self.2 hall, List.length_drop] at h2
  omega
theorem above_few {s : List Int} (hs : s.Pairwise (· ≤ ·)) {k : Nat} (hk : k < s.length) {t : Int} (ht : nt s k ≤ t) : (s.filter fun x => decide (t < x)).length ≤ s.length - k - 1 := by
  have e : s = s.take (k + 1) ++ s.drop (k + 1) := (List.take_append_drop (k + 1) s).symm
  have hnone : (s.take (k + 1)).filter (fun x => decide (t < x)) = [] := by
    rw [List.filter_eq_nil_iff]
    intro x hx
    rw [decide_eq_true_eq]
    rw [List.take_succ_eq_append_getElem hk] at hx
    rcases List.mem_append.1 hx with hx | hx
    · have e2 : s = s.take k ++ s.drop k := (List.take_append_drop k s).symm
      rw [e2, List.pairwise_append] at hs
      have := hs.2.2 x hx s[k] (by rw [List.drop_eq_getElem_cons hk]; exact List.mem_cons_self ..)
      rw [nt_get k hk] at this
      omega
    · rw [List.mem_singleton] at hx
      rw [hx, nt_get k hk]
      omega
  have h2 : (s.filter fun x => decide (t < x)) = (s.drop (k + 1)).filter fun x => decide (t < x) := by
    have := congrArg (List.filter fun x => decide (t < x)) e
    rw [List.filter_append, hnone, List.nil_append] at this
    exact this
  rw [h2]
  refine Nat.le_trans (List.length_filter_le _ _) ?_
  rw [List.length_drop]
  omega
theorem hang_later {p : Pnt} {S : Shp} {b : Int} {t u : Int} (h : t ≤ u) : hangL p S b u = (hangL p S b t).filter fun x => decide (u < x) := by
  unfold hangL hangF
  rw [List.filter_map, List.filter_filter]
  congr 1
  refine List.filter_congr fun i _ => ?_
  unfold hangB
  rw [Bool.eq_iff_iff]
  simp only [Function.comp_apply, Bool.and_eq_true, decide_eq_true_eq, Bool.not_eq_true', decide_eq_false_iff_not]
  omega
/-- At its time a dip finds a rack; no hour from its batch's own one on, before it, finds one. -/
theorem time_free {p : Pnt} (hp : Ok p) (S : Shp) (b : Nat) : ((hangL p S (b : Int) (timeN p S b + p.dip)).length : Int) < p.racks := by
  have hr := hp.racks
  unfold timeN
  generalize he : hourN S b = h0
  split
  · rename_i hn
    generalize hv : hangL p S (b : Int) (h0 + p.dip) = lv at hn ⊢
    have hlen : (sortI lv).length = lv.length := sortI_len lv
    have hk : lv.length - p.racks.toNat < (sortI lv).length := by omega
    generalize hw : nt (sortI lv) (lv.length - p.racks.toNat) = w
    have h1 := above_few (sortI_pw lv) hk (t := max h0 (w - p.dip) + p.dip) (by rw [hw]; omega)
    rw [hang_later (t := h0 + p.dip) (by omega), hv, ← ((sortI_perm lv).filter _).length_eq]
    omega
  · rename_i hn
    omega
theorem time_least {p : Pnt} (hp : Ok p) (S : Shp) (b : Nat) {h : Int} (h1 : hourN S b ≤ h) (h2 : h < timeN p S b) : ((hangL p S (b : Int) (h + p.dip)).length : Int) ≥ p.racks := by
  have hr := hp.racks
  unfold timeN at h2
  generalize he : hourN S b = h0 at h1 h2
  split at h2
  · rename_i hn
    generalize hv : hangL p S (b : Int) (h0 + p.dip) = lv at hn h2
    have hlen : (sortI lv).length = lv.length := sortI_len lv
    have hk : lv.length - p.racks.toNat < (sortI lv).length := by omega
    have h3 := above_many (sortI_pw lv) hk (t := h + p.dip) (by omega)
    rw [hang_later (t := h0 + p.dip) (by omega), hv, ← ((sortI_perm lv).filter _).length_eq]
    omega
  · omega
theorem hour_le {p : Pnt} (hp : Ok p) (S : Shp) (b : Nat) : hourN S b ≤ timeN p S b := by
  unfold timeN
  split <;> omega
end Go.Proofs.Ytibgdkaipleajaa
end

section
set_option linter.unusedVariables false
set_option linter.unusedSimpArgs false
namespace Go.Proofs.Ytibgdkaipleajaa
open Go.AF
theorem shp_hung (p : Pnt) (S : Shp) {H : List Blk} (hH : blkCells H[0]? = some ((shpL p S).map V.p)) {b off : Nat} (hb : b < 4) (ho : off = 3 + b * 4) : aload H true 4 (.ptr 0 off) = some (.p (.agg (S.had b).cells)) := by
  subst ho
  have : b = 0 ∨ b = 1 ∨ b = 2 ∨ b = 3 := by omega
  unfold aload
  dsimp only
  rw [hH]
  rcases this with rfl | rfl | rfl | rfl <;> rfl
def Shp.put (S : Shp) (b : Nat) (x : Hng) : Shp := ⟨fun i => if i = b then x else S.had i, S.fr⟩
theorem shp_store (p : Pnt) (S : Shp) {H : List Blk} {e : TypeId} (hH : H[0]? = some (.cells ((shpL p S).map V.p) e)) {b off : Nat} (hb : b < 4) (ho : off = 3 + b * 4) (x : Hng) : astore H 0 off (x.cells.map V.p) = some (H.set 0 (.cells ((shpL p (S.put b x)).map V.p) e)) := by
  subst ho
  have : b = 0 ∨ b = 1 ∨ b = 2 ∨ b = 3 := by omega
  unfold astore
  rw [hH]
  rcases this with rfl | rfl | rfl | rfl <;> rfl
theorem shpL_lt (p : Pnt) (S : Shp) : 19 < ((shpL p S).map V.p).length := by rw [List.length_map]; exact Nat.le_of_ble_eq_true rfl
structure ShB (M : Int) (S : Shp) : Prop where
  fr : 0 ≤ S.fr ∧ S.fr ≤ M
  could : ∀ i, 0 ≤ (S.had i).could ∧ (S.had i).could ≤ M
  surely : ∀ i, 0 ≤ (S.had i).surely ∧ (S.had i).surely ≤ M
  many : ∀ i, (S.had i).many ≤ 20
theorem shp0_B : ShB 0 shp0 := ⟨⟨Int.le_refl _, Int.le_refl _⟩, fun _ => ⟨Int.le_refl _, Int.le_refl _⟩, fun _ => ⟨Int.le_refl _, Int.le_refl _⟩, fun _ => Nat.zero_le _⟩
theorem ShB.up {M M' : Int} {S : Shp} (h : ShB M S) (hm : M ≤ M') : ShB M' S :=
  ⟨⟨h.fr.1, by have := h.fr; omega⟩, fun i => ⟨(h.could i).1, by have := h.could i; omega⟩, fun i => ⟨(h.surely i).1, by have := h.surely i; omega⟩, h.many⟩
theorem dip_B {p : Pnt} (hp : Ok p) {M : Int} {S : Shp} (hS : ShB M S) {b : Nat} (hb : b < p.bs.length) (hm : (S.had b).many < (cot p.bs b).dry.length) (hl : (S.had b).many < 20) {h : Int} (h0 : 0 ≤ h) (hM : h + 1024 ≤ M) : ShB M (dipN p S b h) := by
  have hd := hp.dip
  have hs := hp.dry _ (cot_mem hb) _ (spt_mem hm)
  refine ⟨?_, fun i => ?_, fun i => ?_, fun i => ?_⟩
  · show 0 ≤ h + p.dip ∧ h + p.dip ≤ M
    omega
  · show 0 ≤ (if i = b then hngN p S b h else S.had i).could ∧ (if i = b then hngN p S b h else S.had i).could ≤ M
    split
    · unfold hngN; dsimp only; omega
    · exact hS.could i
  · show 0 ≤ (if i = b then hngN p S b h else S.had i).surely ∧ (if i = b then hngN p S b h else S.had i).surely ≤ M
    split
    · unfold hngN; dsimp only; omega
    · exact hS.surely i
  · show (if i = b then hngN p S b h else S.had i).many ≤ 20
    split
    · unfold hngN; dsimp only; omega
    · exact hS.many i
def doneN (S : Shp) : Int := max (max (max (max 0 (S.had 0).surely) (S.had 1).surely) (S.had 2).surely) (S.had 3).surely
theorem hour_B {M : Int} {S : Shp} (hS : ShB M S) (b : Nat) : 0 ≤ hourN S b ∧ hourN S b ≤ M := by
  have h1 := hS.fr
  have h2 := hS.surely b
  unfold hourN
  split <;> omega
theorem hang_mem {p : Pnt} {S : Shp} {M : Int} (hS : ShB M S) {but hour x : Int} (h : x ∈ hangL p S but hour) : 0 ≤ x ∧ x ≤ M := by
  unfold hangL hangF at h
  obtain ⟨i, _, rfl⟩ := List.mem_map.1 h
  exact hS.surely i
theorem nts_B {p : Pnt} {S : Shp} {M : Int} (hS : ShB M S) {but hour : Int} {k : Nat} (hk : k < (hangL p S but hour).length) : 0 ≤ nt (sortI (hangL p S but hour)) k ∧ nt (sortI (hangL p S but hour)) k ≤ M :=
  hang_mem hS ((sortI_perm _).mem_iff.1 (nt_mem (by rw [sortI_len]; exact hk)))
theorem time_B {p : Pnt} (hp : Ok p) {M : Int} {S : Shp} (hS : ShB M S) (b : Nat) : 0 ≤ timeN p S b ∧ timeN p S b ≤ M := by
  have h1 := hour_B hS b
  have hr := hp.racks
  have hd := hp.dip
  unfold timeN
  split
  · rename_i h
    have h2 := nts_B hS (p := p) (but := (b : Int)) (hour := hourN S b + p.dip) (k := (hangL p S (b : Int) (hourN S b + p.dip)).length - p.racks.toNat) (by omega)
    omega
  · exact h1
theorem may_0 {p : Pnt} {S : Shp} {b : Int} (h : mayE p S b = 0) : ∃ k : Nat, b = (k : Int) ∧ k < p.bs.length ∧ (S.had k).many < (cot p.bs k).dry.length := by
  unfold mayE at h
  split at h
  · cases h
  · rename_i h1
    split at h
    · cases h
    · rename_i h2
      unfold inB at h1
      simp at h1
      refine ⟨b.toNat, by omega, by omega, ?_⟩
      omega
/-- The next dip of a batch: what the shop is then, when, and what is wrong. -/
def nextN (p : Pnt) (S : Shp) (b : Int) : Shp × Int × Int :=
  if ¬ mayE p S b = 0 then (S, 0, mayE p S b) else if isLateB p S b (timeN p S b.toNat) = true then (S, 0, 11) else (dipN p S b.toNat (timeN p S b.toNat), timeN p S b.toNat, 0)
end Go.Proofs.Ytibgdkaipleajaa
end

section
set_option linter.unusedVariables false
set_option linter.unusedSimpArgs false
namespace Go.Proofs.Ytibgdkaipleajaa
open Go.AF
def SrtTo (xs : List Int) (i : Nat) : Prop := ∀ a b, a < b → b < i → b < xs.length → nt xs a ≤ nt xs b
def SrtBut (ys : List Int) (i j : Nat) : Prop := ∀ a b, a < b → b ≤ i → b ≠ j → nt ys a ≤ nt ys b
def swp (ys : List Int) (j : Nat) : List Int := (ys.set j (nt ys (j - 1))).set (j - 1) (nt ys j)
theorem swp_len (ys : List Int) (j : Nat) : (swp ys j).length = ys.length := by unfold swp; simp
theorem nt_set {ys : List Int} {k a : Nat} {v : Int} (hk : k < ys.length) : nt (ys.set k v) a = if a = k then v else nt ys a := by
  unfold nt
  rw [List.getD_eq_getElem?_getD, List.getD_eq_getElem?_getD, List.getElem?_set]
  by_cases h : k = a
  · subst h
    simp [hk]
  · rw [if_neg h, if_neg (fun e => h e.symm)]
theorem swp_perm {ys : List Int} {j : Nat} (hj : j < ys.length) : List.Perm (swp ys j) ys := by
  unfold swp
  have h1 : j - 1 < ys.length := by omega
  rw [← nt_get j hj, ← nt_get (j - 1) h1]
  exact List.set_set_perm hj h1
theorem swp_nt {ys : List Int} {j a : Nat} (hj : j < ys.length) : nt (swp ys j) a = if a = j - 1 then nt ys j else if a = j then nt ys (j - 1) else nt ys a := by
  unfold swp
  rw [nt_set (by rw [List.length_set]; omega), nt_set hj]
theorem swp_but {ys : List Int} {i j : Nat} (hi : i < ys.length) (hj0 : 0 < j) (hj : j ≤ i) (h : SrtBut ys i j) (hlt : nt ys j < nt ys (j - 1)) : SrtBut (swp ys j) i (j - 1) := by
  intro a b hab hb hbj
  have hjl : j < ys.length := by omega
  rw [swp_nt hjl, swp_nt hjl, if_neg hbj]
  by_cases h1 : b = j
  · rw [if_pos h1]
    by_cases h2 : a = j - 1
    · rw [if_pos h2]; omega
    · rw [if_neg h2, if_neg (by omega)]
      exact h a (j - 1) (by omega) (by omega) (by omega)
  · rw [if_neg h1]
    by_cases h2 : a = j - 1
    · rw [if_pos h2]
      exact h j b (by omega) hb h1
    · rw [if_neg h2]
      by_cases h3 : a = j
      · rw [if_pos h3]
        exact h (j - 1) b (by omega) hb h1
      · rw [if_neg h3]
        exact h a b hab hb h1
theorem but_to {ys : List Int} {i j : Nat} (hj : j ≤ i) (h : SrtBut ys i j) (he : j = 0 ∨ nt ys (j - 1) ≤ nt ys j) : SrtTo ys (i + 1) := by
  intro a b hab hb hbl
  by_cases h1 : b = j
  · subst h1
    rcases he with he | he
    · omega
    · by_cases h2 : a = b - 1
      · rw [h2]; exact he
      · exact Int.le_trans (h a (b - 1) (by omega) (by omega) (by omega)) he
  · exact h a b hab (by omega) h1
theorem to_but {xs : List Int} {i : Nat} (hi : i < xs.length) (h : SrtTo xs i) : SrtBut xs i i := fun a b hab hb hbi => h a b hab (by omega) (by omega)
theorem to_one (l : List Int) : SrtTo l 1 := fun a b hab hb _ => by omega
theorem srt_all {xs l : List Int} {i : Nat} (h : SrtTo xs i) (hi : xs.length ≤ i) (hp : List.Perm xs l) : xs = sortI l := by
  refine sort_of ?_ hp
  rw [List.pairwise_iff_getElem]
  intro a b ha hb hab
  rw [nt_get a ha, nt_get b hb]
  exact h a b hab (by omega) hb
def lenT (n : Nat) : UInt8 := if n = 0 then 0 else if n = 1 then 1 else if n < 4 then 2 else 3
theorem accV_ren {σ : Nat → Option Nat} {i j n : Nat} (h : σ i = some j) : renV σ (accV i n) = accV j n := by
  cases n with
  | zero => rfl
  | succ n => simp only [accV, renV, h]
theorem accB_ren {σ : Nat → Option Nat} {xs : List PV} {e : Go.TypeId} {n : Nat} : renB σ (accB (xs.map .p) e n) = accB (xs.map .p) e n := by
  cases n with
  | zero => rfl
  | succ n => simp only [accB, renB, renL_pure]
end Go.Proofs.Ytibgdkaipleajaa
end

section
set_option linter.unusedVariables false
set_option linter.unusedSimpArgs false
namespace Go.Proofs.Ytibgdkaipleajaa
open Go.AF
theorem dry9 {p : Pnt} (hp : Ok p) {b : Nat} (hb : b < p.bs.length) : (cot p.bs b).dry.length ≤ 9 := by
  have h1 := sumD_mono p.bs hb
  have h2 := hp.all
  unfold coats at h2
  omega
theorem next_B {p : Pnt} (hp : Ok p) {M : Int} {S : Shp} (hS : ShB M S) (b : Int) : ShB (M + 2048) (nextN p S b).1 := by
  unfold nextN
  split
  · exact hS.up (by omega)
  · rename_i h
    split
    · exact hS.up (by omega)
    · obtain ⟨k, rfl, hk, hm⟩ := may_0 (Classical.not_not.1 h)
      have h9 := dry9 hp hk
      have ht := time_B hp hS k
      exact dip_B hp (hS.up (by omega)) hk hm (by omega) ht.1 (by show timeN p S k + 1024 ≤ _; omega)
/-- What a shop is after the first dips of an order. -/
def stN (p : Pnt) (o : List Int) : Nat → Shp
  | 0 => shp0
  | i + 1 => (nextN p (stN p o i) (nt o i)).1
def errI (p : Pnt) (o : List Int) (i : Nat) : Int := (nextN p (stN p o i) (nt o i)).2.2
def hrI (p : Pnt) (o : List Int) (i : Nat) : Int := (nextN p (stN p o i) (nt o i)).2.1
def hrs (p : Pnt) (o : List Int) (k : Nat) : List Int := (List.range k).map (hrI p o)
theorem hrs_len (p : Pnt) (o : List Int) (k : Nat) : (hrs p o k).length = k := by unfold hrs; simp
theorem hrs_S (p : Pnt) (o : List Int) (k : Nat) : hrs p o (k + 1) = hrs p o k ++ [hrI p o k] := by unfold hrs; rw [List.range_succ, List.map_append]; rfl
theorem hrs_get (p : Pnt) (o : List Int) {k i : Nat} (h : i < k) : nt (hrs p o k) i = hrI p o i := by
  unfold nt hrs
  rw [List.getD_eq_getElem?_getD, List.getElem?_map, List.getElem?_range h]
  rfl
theorem stN_B {p : Pnt} (hp : Ok p) (o : List Int) : ∀ i : Nat, ShB (2048 * (i : Int)) (stN p o i)
  | 0 => shp0_B
  | i + 1 => by
    have h := next_B hp (stN_B hp o i) (nt o i)
    rw [show (2048 * ((i + 1 : Nat) : Int)) = 2048 * (i : Int) + 2048 by omega]
    exact h
/-- What Times answers: the hours, an index, an error. -/
def timesR (p : Pnt) (o : List Int) : List Int × Int × Int :=
  if pntB p = false then ([], 0, 1) else match (List.range o.length).find? fun i => !decide (errI p o i = 0) with
    | some i => ([], (i : Int), errI p o i)
    | none => if (o.length : Int) < (coats p : Int) then ([], (o.length : Int), 4) else (hrs p o o.length, (o.length : Int), 0)
def tmL (r : List Int × Int × Int) : PV := if r.2.2 = 0 then intsV r.1 else .nilSlice
def tmV (r : List Int × Int × Int) : PV := .tuple [tmL r, .int .i64 r.2.1, .int .i64 r.2.2]
theorem times_arg {p : Pnt} (o : List Int) (h : pntB p = false) : timesR p o = ([], 0, 1) := by unfold timesR; rw [if_pos h]
theorem times_err {p : Pnt} {o : List Int} (hp : pntB p = true) {i : Nat} (hi : i < o.length) (h : ∀ j, j < i → errI p o j = 0) (he : ¬ errI p o i = 0) : timesR p o = ([], (i : Int), errI p o i) := by
  unfold timesR
  rw [if_neg (by rw [hp]; decide)]
  have : (List.range o.length).find? (fun i => !decide (errI p o i = 0)) = some i := by
    rw [List.find?_range_eq_some]
    refine ⟨by simpa using he, by simpa using hi, fun j hj => ?_⟩
    simp [h j hj]
  rw [this]
theorem times_end {p : Pnt} {o : List Int} (hp : pntB p = true) (h : ∀ j, j < o.length → errI p o j = 0) : timesR p o = if (o.length : Int) < (coats p : Int) then ([], (o.length : Int), 4) else (hrs p o o.length, (o.length : Int), 0) := by
  unfold timesR
  rw [if_neg (by rw [hp]; decide)]
  have : (List.range o.length).find? (fun i => !decide (errI p o i = 0)) = none := by
    rw [List.find?_eq_none]
    intro j hj
    simp [h j (List.mem_range.1 hj)]
  rw [this]
theorem times_0 {p : Pnt} {o : List Int} (h : (timesR p o).2.2 = 0) : pntB p = true ∧ (∀ j, j < o.length → errI p o j = 0) ∧ coats p ≤ o.length ∧ timesR p o = (hrs p o o.length, (o.length : Int), 0) := by
  cases hp : pntB p with
  | false =>
    rw [times_arg o hp] at h
    cases h
  | true =>
    have hall : ∀ j, j < o.length → errI p o j = 0 := by
      cases hf : (List.range o.length).find? fun i => !decide (errI p o i = 0) with
      | some i =>
        exfalso
        rw [List.find?_range_eq_some] at hf
        obtain ⟨h1, h2, h3⟩ := hf
        have he : ¬ errI p o i = 0 := by simpa using h1
        rw [times_err hp (by simpa using h2) (fun j hj => by simpa using h3 j hj) he] at h
        exact he h
      | none =>
        rw [List.find?_eq_none] at hf
        intro j hj
        simpa using hf j (List.mem_range.2 hj)
    have e := times_end hp hall
    rw [e] at h ⊢
    split at h
    · cases h
    · rename_i hn
      exact ⟨rfl, hall, by omega, if_neg hn⟩
theorem next_0 {p : Pnt} {S : Shp} {b : Int} (h : (nextN p S b).2.2 = 0) : ∃ k : Nat, b = (k : Int) ∧ k < p.bs.length ∧ (S.had k).many < (cot p.bs k).dry.length ∧ ¬ isLateB p S b (timeN p S k) = true ∧ nextN p S b = (dipN p S k (timeN p S k), timeN p S k, 0) := by
  unfold nextN at h ⊢
  split at h
  · rename_i h1
    exact absurd h h1
  · rename_i h1
    obtain ⟨k, rfl, hk, hm⟩ := may_0 (Classical.not_not.1 h1)
    split at h
    · cases h
    · rename_i h2
      exact ⟨k, rfl, hk, hm, h2, by rw [if_neg h1, if_neg h2]; rfl⟩
/-- What is given of a paint shop's lists. -/
def Lim (p : Pnt) : Prop := p.bs.length ≤ 8 ∧ ∀ b ∈ p.bs, b.dry.length ≤ 14
end Go.Proofs.Ytibgdkaipleajaa
end

section
set_option linter.unusedVariables false
set_option linter.unusedSimpArgs false
namespace Go.Proofs.Ytibgdkaipleajaa
open Go.AF
def errM : List (Int × Int) := mset 3 10 (mset 2 11 (mset 1 6 (mset 0 7 [])))
/-- What is wrong with a dip. -/
def chkE (p : Pnt) (S : Shp) (x : Dp) : Int :=
  if (decide (mayE p S x.b = 2) || !inB x.h 0 1048576) = true then 2 else if ¬ mayE p S x.b = 0 then mayE p S x.b
  else if decide (x.h < S.fr) = true then 7 else if isWetB S x.b x.h = true then 6 else if isLateB p S x.b x.h = true then 11 else if isFullB p S x.b x.h = true then 10 else 0
def csN (p : Pnt) (l : List Dp) : Nat → Shp
  | 0 => shp0
  | i + 1 => if chkE p (csN p l i) (dpt l i) = 0 then dipN p (csN p l i) (dpt l i).b.toNat (dpt l i).h else csN p l i
theorem chk_go {p : Pnt} {S : Shp} {x : Dp} (he : mayE p S x.b = 0) (hh : inB x.h 0 1048576 = true) :
    chkE p S x = if decide (x.h < S.fr) = true then 7 else if isWetB S x.b x.h = true then 6 else if isLateB p S x.b x.h = true then 11 else if isFullB p S x.b x.h = true then 10 else 0 := by
  unfold chkE
  rw [he, hh]
  rfl
theorem chk_0 {p : Pnt} {S : Shp} {x : Dp} (h : chkE p S x = 0) : mayE p S x.b = 0 ∧ inB x.h 0 1048576 = true := by
  unfold chkE at h
  split at h
  · cases h
  · rename_i h1
    simp only [Bool.or_eq_true, not_or, decide_eq_true_eq, Bool.not_eq_true', Bool.not_eq_false] at h1
    split at h
    · rename_i h2
      exact absurd h h2
    · rename_i h2
      exact ⟨Classical.not_not.1 h2, h1.2⟩
theorem hour_in {n : Int} (h : inB n 0 1048576 = true) : 0 ≤ n ∧ n ≤ 1048576 := by
  unfold inB at h
  simpa using h
theorem csN_B {p : Pnt} (hp : Ok p) (l : List Dp) : ∀ i : Nat, ShB 1050000 (csN p l i)
  | 0 => shp0_B.up (by decide)
  | i + 1 => by
    have ih := csN_B hp l i
    unfold csN
    split
    · rename_i h
      obtain ⟨h1, h2⟩ := chk_0 h
      obtain ⟨k, hk, hkl, hm⟩ := may_0 h1
      have h9 := dry9 hp hkl
      have h3 := hour_in h2
      rw [hk]
      exact dip_B hp ih hkl hm (by show ((csN p l i).had k).many < 20; omega) h3.1 (by omega)
    · exact ih
def chkR (p : Pnt) (l : List Dp) : Int × Int :=
  if pntB p = false then (0, 1) else match (List.range l.length).find? fun i => !decide (chkE p (csN p l i) (dpt l i) = 0) with
    | some i => ((i : Int), chkE p (csN p l i) (dpt l i))
    | none => if (l.length : Int) < (coats p : Int) then ((l.length : Int), 4) else ((l.length : Int), 0)
theorem chk_arg {p : Pnt} (l : List Dp) (h : pntB p = false) : chkR p l = (0, 1) := by unfold chkR; rw [if_pos h]
theorem chk_err {p : Pnt} {l : List Dp} (hp : pntB p = true) {i : Nat} (hi : i < l.length) (h : ∀ j, j < i → chkE p (csN p l j) (dpt l j) = 0) (he : ¬ chkE p (csN p l i) (dpt l i) = 0) : chkR p l = ((i : Int), chkE p (csN p l i) (dpt l i)) := by
  unfold chkR
  rw [if_neg (by rw [hp]; decide)]
  have : (List.range l.length).find? (fun i => !decide (chkE p (csN p l i) (dpt l i) = 0)) = some i := by
    rw [List.find?_range_eq_some]
    refine ⟨by simpa using he, by simpa using hi, fun j hj => ?_⟩
    simp [h j hj]
  rw [this]
theorem chk_end {p : Pnt} {l : List Dp} (hp : pntB p = true) (h : ∀ j, j < l.length → chkE p (csN p l j) (dpt l j) = 0) : chkR p l = if (l.length : Int) < (coats p : Int) then ((l.length : Int), 4) else ((l.length : Int), 0) := by
  unfold chkR
  rw [if_neg (by rw [hp]; decide)]
  have : (List.range l.length).find? (fun i => !decide (chkE p (csN p l i) (dpt l i) = 0)) = none := by
    rw [List.find?_eq_none]
    intro j hj
    simp [h j (List.mem_range.1 hj)]
  rw [this]
def chkV (r : Int × Int) : PV := .tuple [.int .i64 r.1, .int .i64 r.2]
/-! ### Who can be wet -/
def wsN (p : Pnt) (o : List Int) (hour : Int) : Nat → Shp
  | 0 => shp0
  | i + 1 => if hrI p o i + p.dip ≤ hour then dipN p (wsN p o hour i) (nt o i).toNat (hrI p o i) else wsN p o hour i
theorem ws_all {p : Pnt} (hp : Ok p) (o : List Int) (hour : Int) : ∀ i : Nat, (∀ j, j < i → errI p o j = 0) → ShB (2048 * (i : Int)) (wsN p o hour i) ∧ ∀ b, ((wsN p o hour i).had b).many ≤ ((stN p o i).had b).many
  | 0, _ => ⟨shp0_B, fun b => Nat.le_refl _⟩
  | i + 1, h => by
    obtain ⟨h1, h2⟩ := ws_all hp o hour i fun j hj => h j (by omega)
    obtain ⟨k, hk, hkl, hm, _, hn⟩ := next_0 (show (nextN p (stN p o i) (nt o i)).2.2 = 0 from h i (by omega))
    have hS := stN_B hp o i
    have ht := time_B hp hS k
    have h9 := dry9 hp hkl
    have h2k := h2 k
    have hr : hrI p o i = timeN p (stN p o i) k := by unfold hrI; rw [hn]
    have es : stN p o (i + 1) = dipN p (stN p o i) k (timeN p (stN p o i) k) := by rw [stN, hn]
    rw [show (2048 * ((i + 1 : Nat) : Int)) = 2048 * (i : Int) + 2048 by omega, es, wsN, hr, hk]
    split
    · refine ⟨dip_B hp (h1.up (by omega)) hkl (by show ((wsN p o hour i).had k).many < _; omega) (by show ((wsN p o hour i).had k).many < 20; omega) ht.1 (by omega), fun b => ?_⟩
      show (if b = k then hngN p (wsN p o hour i) k (timeN p (stN p o i) k) else (wsN p o hour i).had b).many ≤ (if b = k then hngN p (stN p o i) k (timeN p (stN p o i) k) else (stN p o i).had b).many
      split
      · unfold hngN; dsimp only; omega
      · exact h2 b
    · refine ⟨h1.up (by omega), fun b => ?_⟩
      show ((wsN p o hour i).had b).many ≤ (if b = k then hngN p (stN p o i) k (timeN p (stN p o i) k) else (stN p o i).had b).many
      split
      · rename_i e
        subst e
        unfold hngN; dsimp only; omega
      · exact h2 b
theorem ws_in {p : Pnt} (hp : Ok p) (o : List Int) (hour : Int) {i : Nat} (h : ∀ j, j < i + 1 → errI p o j = 0) : ∃ k : Nat, nt o i = (k : Int) ∧ k < p.bs.length ∧ ((wsN p o hour i).had k).many < (cot p.bs k).dry.length ∧ ShB (2048 * (i : Int)) (wsN p o hour i) ∧ 0 ≤ hrI p o i ∧ hrI p o i ≤ 2048 * (i : Int) := by
  obtain ⟨h1, h2⟩ := ws_all hp o hour i fun j hj => h j (by omega)
  obtain ⟨k, hk, hkl, hm, _, hn⟩ := next_0 (show (nextN p (stN p o i) (nt o i)).2.2 = 0 from h i (by omega))
  have ht := time_B hp (stN_B hp o i) k
  have hr : hrI p o i = timeN p (stN p o i) k := by unfold hrI; rw [hn]
  have := h2 k
  exact ⟨k, hk, hkl, by omega, h1, by omega, by omega⟩
theorem had_at (S : Shp) {k : Nat} (hk : k < 4) : apart true 4 (k * 4) (.p (.agg ((hadL S).flatMap Hng.cells))) = some (.p (.agg (S.had k).cells)) := by
  have : k = 0 ∨ k = 1 ∨ k = 2 ∨ k = 3 := by omega
  rcases this with rfl | rfl | rfl | rfl <;> rfl
def wl (S : Shp) (hour : Int) (i : Nat) : Bool := decide (((S.had i).many : Int) > 0) && decide (hour < (S.had i).could)
def wh (S : Shp) (hour : Int) (i : Nat) : Bool := decide (((S.had i).many : Int) > 0) && decide (hour < (S.had i).surely)
def cntB (f : Nat → Bool) : Nat → Int
  | 0 => 0
  | i + 1 => if f i = true then cntB f i + 1 else cntB f i
theorem cntB_le (f : Nat → Bool) : ∀ i : Nat, 0 ≤ cntB f i ∧ cntB f i ≤ i
  | 0 => ⟨Int.le_refl _, Int.le_refl _⟩
  | i + 1 => by
    have := cntB_le f i
    unfold cntB
    split <;> omega
def wetR (p : Pnt) (o : List Int) (hour : Int) : Spn × Int :=
  if ¬ (timesR p o).2.2 = 0 then (⟨0, 0⟩, (timesR p o).2.2) else if inB hour 0 1048576 = false then (⟨0, 0⟩, 2)
  else (⟨cntB (wl (wsN p o hour o.length) hour) 4, cntB (wh (wsN p o hour o.length) hour) 4⟩, 0)
def wetV (r : Spn × Int) : PV := .tuple [.agg r.1.cells, .int .i64 r.2]
end Go.Proofs.Ytibgdkaipleajaa
end

section
set_option linter.unusedVariables false
set_option linter.unusedSimpArgs false
namespace Go.Proofs.Ytibgdkaipleajaa
open Go.AF
/-- The best order so far, and when it is done. -/
abbrev Bst := Option (List Int × Int)
def ordV : Bst → PV
  | none => .nilSlice
  | some x => intsV x.1
def hrV : Bst → Int
  | none => 0
  | some x => x.2
def okS (st : Bst) : Prop := ∀ x, st = some x → 0 < x.1.length
theorem nilQ_ord {st : Bst} (h : okS st) : nilQ (ordV st) = some st.isNone := by
  cases st with
  | none => rfl
  | some x =>
    have h0 := h x rfl
    obtain ⟨l, t⟩ := x
    cases l with
    | nil => cases h0
    | cons a l => rfl
def skipB (p : Pnt) (S : Shp) (k : Nat) (st : Bst) : Bool := !decide ((nextN p S (k : Int)).2.2 = 0) || (!st.isNone && decide (doneN (nextN p S (k : Int)).1 ≥ hrV st))
def bstE (p : Pnt) (F : Shp → List Int → Bst → Bst) (S : Shp) (l : List Int) : Nat → Bst → Bst
  | 0, st => st
  | k + 1, st => if skipB p S k (bstE p F S l k st) = true then bstE p F S l k st else F (nextN p S (k : Int)).1 (l ++ [(k : Int)]) (bstE p F S l k st)
def bstF (p : Pnt) : Nat → Shp → List Int → Bst → Bst
  | 0, S, l, st => if (st.isNone || decide (doneN S < hrV st)) = true then some (l, doneN S) else st
  | f + 1, S, l, st => bstE p (bstF p f) S l p.bs.length st
theorem bstE_ok {p : Pnt} {F : Shp → List Int → Bst → Bst} {S : Shp} {l : List Int} (hF : ∀ S' l' st, okS st → l'.length = l.length + 1 → okS (F S' l' st)) : ∀ k st, okS st → okS (bstE p F S l k st)
  | 0, st, h => h
  | k + 1, st, h => by
    have ih := bstE_ok hF (p := p) (S := S) k st h
    unfold bstE
    split
    · exact ih
    · exact hF _ _ _ ih (by simp)
theorem bstF_ok {p : Pnt} : ∀ f S l st, okS st → 0 < l.length + f → okS (bstF p f S l st)
  | 0, S, l, st, h, h0 => by
    unfold bstF
    split
    · intro x hx
      cases hx
      simpa using h0
    · exact h
  | f + 1, S, l, st, h, h0 => by
    unfold bstF
    exact bstE_ok (fun S' l' st' h1 h2 => bstF_ok f S' l' st' h1 (by omega)) _ st h
theorem setAt_mid : ∀ (vs zs pre tail : List V), zs.length = vs.length → setAt (pre ++ (zs ++ tail)) pre.length vs = pre ++ (vs ++ tail)
  | [], zs, pre, tail, h => by
    obtain rfl : zs = [] := List.eq_nil_of_length_eq_zero (by simpa using h)
    rfl
  | v :: vs, [], pre, tail, h => by simp at h
  | v :: vs, z :: zs, pre, tail, h => by
    have ih := setAt_mid vs zs (pre ++ [v]) tail (by simpa using h)
    simp only [setAt]
    have e : (pre ++ (z :: zs ++ tail)).set pre.length v = (pre ++ [v]) ++ (zs ++ tail) := by simp
    rw [e]
    have e2 : pre.length + 1 = (pre ++ [v]).length := by simp
    rw [e2, ih]
    simp
theorem copy_row (l : List Int) : setAt ((List.replicate (l.length + 1) [PV.int .i64 0]).flatten.map V.p) 0 ((l.flatMap i1).map .p) = ((l ++ [0]).flatMap i1).map .p := by
  have hl : ((List.replicate l.length [PV.int .i64 0]).flatten.map V.p).length = ((l.flatMap i1).map V.p).length := by
    rw [List.length_map, List.length_map, flat_len (c := 1) (fun _ => rfl)]
    simp
  have h := setAt_mid ((l.flatMap i1).map V.p) ((List.replicate l.length [PV.int .i64 0]).flatten.map V.p) [] [V.p (.int .i64 0)] hl
  have e : (List.replicate (l.length + 1) [PV.int .i64 0]).flatten.map V.p = (List.replicate l.length [PV.int .i64 0]).flatten.map V.p ++ [V.p (.int .i64 0)] := by
    rw [List.replicate_succ', List.flatten_append, List.map_append]; rfl
  rw [e, List.flatMap_append, List.map_append]
  exact h
theorem set_snoc (l : List Int) (b : Int) : (l ++ [0]).set l.length b = l ++ [b] := by simp
end Go.Proofs.Ytibgdkaipleajaa
end

section
set_option linter.unusedVariables false
namespace Go.Proofs.Ytibgdkaipleajaa
open Go.AF
def PS (r : Int) : Pnt := ⟨2, r, [⟨[⟨4, 6⟩, ⟨3, 5⟩], 10⟩, ⟨[⟨5, 8⟩], 10⟩]⟩
theorem ex_times : timesR (PS 1) [0, 1, 0] = ([0, 6, 14], 3, 0) := by kernel_rfl
theorem ex_wet : wetR (PS 1) [0, 1, 0] 15 = (⟨0, 1⟩, 0) := by kernel_rfl
theorem ex_chk : chkR (PS 1) [⟨0, 0⟩, ⟨1, 2⟩] = (1, 10) := by kernel_rfl
def bestR (p : Pnt) : Bst × Int := if pntB p = false then (none, 1) else if (bstF p (coats p) shp0 [] none).isNone = true then (none, 4) else (bstF p (coats p) shp0 [] none, 0)
def bestV (r : Bst × Int) : PV := .tuple [ordV r.1, .int .i64 (hrV r.1), .int .i64 r.2]
theorem okN : okS none := fun x h => by cases h
theorem ex_best : bestR (PS 1) = (some ([0, 1, 0], 21), 0) := by kernel_rfl
theorem ex_best2 : (hrV (bestR (PS 2)).1, (bestR (PS 2)).2) = (15, 0) := by kernel_rfl
end Go.Proofs.Ytibgdkaipleajaa
end

section
set_option linter.unusedVariables false
set_option linter.unusedSimpArgs false
namespace Go.Proofs.Ytibgdkaipleajaa
open Go.AF
theorem nt_ext {a b : List Int} (hl : a.length = b.length) (h : ∀ j, j < a.length → nt a j = nt b j) : a = b := by
  apply List.ext_getElem hl
  intro i h1 h2
  rw [nt_get i h1, nt_get i h2]
  exact h i h1
/-- The sum of the coats, as a machine makes it. -/
def wS (l : List Cot) : Nat → Int
  | 0 => 0
  | k + 1 => Go.IntKind.i64.wrap (wS l k + ((cot l k).dry.length : Int))
theorem wS_sum {l : List Cot} (h8 : l.length ≤ 8) (hd : ∀ j, j < l.length → (cot l j).dry.length ≤ 14) : ∀ k, k ≤ l.length → wS l k = (sumD l k : Int) ∧ sumD l k ≤ k * 14
  | 0, _ => ⟨rfl, Nat.le_refl _⟩
  | k + 1, h => by
    obtain ⟨h1, h2⟩ := wS_sum h8 hd k (by omega)
    have h3 := hd k (by omega)
    refine ⟨?_, by rw [sumD]; omega⟩
    rw [wS, h1, sumD, i64ok (by omega)]
    omega
def lrgB (p : Pnt) (n : Int) : Bool := p.bs.any (fun b => decide ((b.dry.length : Int) > 14)) || (decide (wS p.bs p.bs.length > n) && decide (wS p.bs p.bs.length ≤ 9) || decide ((p.bs.length : Int) > 8))
theorem lrg_no {p : Pnt} {n : Int} (h : lrgB p n = false) : p.bs.length ≤ 8 ∧ (∀ b ∈ p.bs, b.dry.length ≤ 14) ∧ ((coats p : Int) ≤ n ∨ 9 < coats p) := by
  unfold lrgB at h
  simp only [Bool.or_eq_false_iff, List.any_eq_false, decide_eq_true_eq, decide_eq_false_iff_not] at h
  obtain ⟨h1, h2, h3⟩ := h
  have hd : ∀ b ∈ p.bs, b.dry.length ≤ 14 := fun b hb => by have := h1 b hb; omega
  have h8 : p.bs.length ≤ 8 := by omega
  refine ⟨h8, hd, ?_⟩
  have hs := (wS_sum h8 (fun j hj => hd _ (cot_mem hj)) p.bs.length (Nat.le_refl _)).1
  rw [hs] at h2
  rw [Bool.and_eq_false_iff] at h2
  unfold coats
  simp only [decide_eq_false_iff_not] at h2
  omega
theorem any_no {p : Pnt} (h : ∀ j, j < p.bs.length → (cot p.bs j).dry.length ≤ 14) : p.bs.any (fun b => decide ((b.dry.length : Int) > 14)) = false := by
  rw [List.any_eq_false]
  intro b hb
  obtain ⟨j, hj, rfl⟩ := List.getElem_of_mem hb
  rw [cot_get j hj]
  have := h j hj
  simp
  omega
end Go.Proofs.Ytibgdkaipleajaa
end

section
set_option linter.unusedVariables false
set_option linter.unusedSimpArgs false
namespace Go.Proofs.Ytibgdkaipleajaa
open Go.AF
def pnt1 (p : Pnt) : Bool := !inB p.dip 1 24 || !inB p.racks 1 4 || !inB (p.bs.length : Int) 1 4
theorem pnt_F1 {p : Pnt} (h : pnt1 p = true) : pntB p = false := by
  unfold pntB
  unfold pnt1 at h
  cases h1 : inB p.dip 1 24 with
  | false => rfl
  | true =>
    cases h2 : inB p.racks 1 4 with
    | false => rfl
    | true =>
      cases h3 : inB (p.bs.length : Int) 1 4 with
      | false => rfl
      | true => rw [h1, h2, h3] at h; cases h
theorem pnt_F2 {p : Pnt} {j : Nat} (hj : j < p.bs.length) (h : cotB (cot p.bs j) = true) : pntB p = false := by
  unfold pntB
  rw [List.any_eq_true.2 ⟨_, cot_mem hj, h⟩]
  simp
theorem pnt_E {p : Pnt} (h : pnt1 p = false) (ha : ∀ j, j < p.bs.length → cotB (cot p.bs j) = false) : pntB p = decide ((coats p : Int) ≤ 9) := by
  unfold pntB
  unfold pnt1 at h
  simp only [Bool.or_eq_false_iff, Bool.not_eq_false'] at h
  have hn : p.bs.any cotB = false := by
    rw [List.any_eq_false]
    intro b hb
    obtain ⟨j, hj, rfl⟩ := List.getElem_of_mem hb
    rw [cot_get j hj, ha j hj]
    decide
  rw [h.1.1, h.1.2, h.2, hn]
  simp
theorem cot_T1 {b : Cot} (h : (decide ((b.dry.length : Int) = 0) || !inB b.late 0 1000) = true) : cotB b = true := by unfold cotB; rw [h]; rfl
theorem cot_T2 {b : Cot} {k : Nat} (hk : k < b.dry.length) (h : dryB (spt b.dry k) = true) : cotB b = true := by
  unfold cotB
  rw [List.any_eq_true.2 ⟨_, spt_mem hk, h⟩]
  simp
theorem cot_F {b : Cot} (h : (decide ((b.dry.length : Int) = 0) || !inB b.late 0 1000) = false) (ha : ∀ k, k < b.dry.length → dryB (spt b.dry k) = false) : cotB b = false := by
  unfold cotB
  rw [h]
  have : b.dry.any dryB = false := by
    rw [List.any_eq_false]
    intro s hs
    obtain ⟨j, hj, rfl⟩ := List.getElem_of_mem hs
    rw [spt_get j hj, ha j hj]
    decide
  rw [this]
  rfl
/-- How many of the first dips are of a batch. -/
def manyD (l : List Dp) (b : Int) : Nat → Nat
  | 0 => 0
  | k + 1 => if (dpt l k).b = b then manyD l b k + 1 else manyD l b k
theorem manyD_le (l : List Dp) (b : Int) : ∀ k, manyD l b k ≤ k
  | 0 => Nat.le_refl _
  | k + 1 => by
    have := manyD_le l b k
    unfold manyD
    split <;> omega
def countI (l : List Int) (n : Int) : Nat → Nat
  | 0 => 0
  | k + 1 => if nt l k = n then countI l n k + 1 else countI l n k
theorem countI_le (l : List Int) (n : Int) : ∀ k, countI l n k ≤ k
  | 0 => Nat.le_refl _
  | k + 1 => by
    have := countI_le l n k
    unfold countI
    split <;> omega
end Go.Proofs.Ytibgdkaipleajaa
end

section
set_option linter.unusedVariables false
set_option linter.unusedSimpArgs false
namespace Go.Proofs.Ytibgdkaipleajaa
open Go.AF
/-- What a shop is after the first dips, whatever they are. -/
def fS (p : Pnt) (l : List Dp) : Nat → Shp
  | 0 => shp0
  | i + 1 => dipN p (fS p l i) (dpt l i).b.toNat (dpt l i).h
/-- The dips are of batches that are not full, at hours that a machine can hold. -/
def Good (p : Pnt) (l : List Dp) : Prop := ∀ i, i < l.length → ∃ k : Nat, (dpt l i).b = (k : Int) ∧ k < p.bs.length ∧ ((fS p l i).had k).many < (cot p.bs k).dry.length ∧ 0 ≤ (dpt l i).h ∧ (dpt l i).h ≤ 1073741824
theorem dpt_take (l : List Dp) {i k : Nat} (h : k < i) : dpt (l.take i) k = dpt l k := by
  unfold dpt
  rw [List.getD_eq_getElem?_getD, List.getD_eq_getElem?_getD, List.getElem?_take_of_lt h]
theorem manyD_take (l : List Dp) (b : Int) {i : Nat} : ∀ k, k ≤ i → manyD (l.take i) b k = manyD l b k
  | 0, _ => rfl
  | k + 1, h => by
    have ih := manyD_take l b (i := i) k (by omega)
    unfold manyD
    rw [dpt_take l (by omega), ih]
theorem cutD (l : List Dp) {i : Nat} (h : i ≤ l.length) : PV.is ((l.take i).flatMap Dp.cells) (i - 0) = dpsV (l.take i) := by
  unfold dpsV
  rw [Nat.sub_zero, List.length_take, Nat.min_eq_left h]
theorem takeD (l : List Dp) (i : Nat) : ((l.flatMap Dp.cells).drop (0 * 2)).take ((i - 0) * 2) = (l.take i).flatMap Dp.cells := by
  rw [Nat.zero_mul, List.drop_zero, Nat.sub_zero]
  induction l generalizing i with
  | nil => simp
  | cons x l ih =>
    cases i with
    | zero => simp
    | succ i =>
      rw [List.take_succ_cons, List.flatMap_cons, List.flatMap_cons, show (i + 1) * 2 = (Dp.cells x).length + i * 2 by show _ = 2 + i * 2; omega, List.take_append]
      rw [List.take_of_length_le (by omega), show (Dp.cells x).length + i * 2 - (Dp.cells x).length = i * 2 by omega, ih]
theorem many_fS {p : Pnt} {l : List Dp} (hG : Good p l) (k : Nat) : ∀ i, i ≤ l.length → manyD l (k : Int) i = ((fS p l i).had k).many
  | 0, _ => rfl
  | i + 1, h => by
    have ih := many_fS hG k i (by omega)
    obtain ⟨k2, h2, _⟩ := hG i (by omega)
    unfold manyD fS
    rw [ih, h2]
    show (if (k2 : Int) = (k : Int) then _ else _) = (if k = (k2 : Int).toNat then hngN p (fS p l i) (k2 : Int).toNat (dpt l i).h else (fS p l i).had k).many
    by_cases e : k2 = k
    · subst e
      rw [if_pos rfl, if_pos (by simp)]
      show _ = ((fS p l i).had (k2 : Int).toNat).many + 1
      simp
    · rw [if_neg (by omega), if_neg (by omega)]
/-- The end of the last one of the first dips that is of a batch, and how long it dries. -/
def lastD (p : Pnt) (l : List Dp) (b : Int) : Nat → Int × Spn × Bool
  | 0 => (0, ⟨0, 0⟩, false)
  | i + 1 => if (dpt l i).b = b then ((dpt l i).h + p.dip, spt (cot p.bs b.toNat).dry (manyD l b i), true) else lastD p l b i
theorem last_fS {p : Pnt} {l : List Dp} (hG : Good p l) (k : Nat) : ∀ i, i ≤ l.length →
    (((fS p l i).had k).many = 0 ∧ lastD p l (k : Int) i = (0, ⟨0, 0⟩, false)) ∨
    (0 < ((fS p l i).had k).many ∧ ∃ d, lastD p l (k : Int) i = (((fS p l i).had k).fin, d, true) ∧ d = spt (cot p.bs k).dry (((fS p l i).had k).many - 1) ∧ ((fS p l i).had k).could = ((fS p l i).had k).fin + d.lo ∧ ((fS p l i).had k).surely = ((fS p l i).had k).fin + d.hi)
  | 0, _ => .inl ⟨rfl, rfl⟩
  | i + 1, h => by
    have ih := last_fS hG k i (by omega)
    obtain ⟨k2, h2, _⟩ := hG i (by omega)
    have hm := many_fS hG k i (by omega)
    have e0 : (fS p l (i + 1)).had k = if k = k2 then hngN p (fS p l i) k2 (dpt l i).h else (fS p l i).had k := by
      show (if k = (dpt l i).b.toNat then hngN p (fS p l i) (dpt l i).b.toNat (dpt l i).h else (fS p l i).had k) = _
      rw [h2]; rfl
    by_cases e : k = k2
    · subst e
      rw [e0, if_pos rfl]
      right
      refine ⟨Nat.succ_pos _, spt (cot p.bs k).dry ((fS p l i).had k).many, ?_, rfl, rfl, rfl⟩
      show (if (dpt l i).b = (k : Int) then ((dpt l i).h + p.dip, spt (cot p.bs (k : Int).toNat).dry (manyD l (k : Int) i), true) else lastD p l (k : Int) i) = _
      rw [if_pos h2, hm]
      rfl
    · rw [e0, if_neg e]
      have : lastD p l (k : Int) (i + 1) = lastD p l (k : Int) i := if_neg (by rw [h2]; omega)
      rw [this]
      exact ih
end Go.Proofs.Ytibgdkaipleajaa
end

section
set_option linter.unusedVariables false
set_option linter.unusedSimpArgs false
namespace Go.Proofs.Ytibgdkaipleajaa
open Go.AF
theorem lastD_B {p : Pnt} (hp : Ok p) {l : List Dp} (hG : Good p l) (b : Int) : ∀ i, i ≤ l.length → 0 ≤ (lastD p l b i).1 ∧ (lastD p l b i).1 ≤ 1073741848 ∧ 0 ≤ (lastD p l b i).2.1.lo ∧ (lastD p l b i).2.1.lo ≤ 1000 ∧ 0 ≤ (lastD p l b i).2.1.hi ∧ (lastD p l b i).2.1.hi ≤ 1000
  | 0, _ => (by show (0:Int) ≤ 0 ∧ (0:Int) ≤ 1073741848 ∧ (0:Int) ≤ 0 ∧ (0:Int) ≤ 1000 ∧ (0:Int) ≤ 0 ∧ (0:Int) ≤ 1000; decide)
  | i + 1, h => by
    have ih := lastD_B hp hG b i (by omega)
    obtain ⟨k, h2, h3, h4, h5, h6⟩ := hG i (by omega)
    have hd := hp.dip
    unfold lastD
    split
    · rename_i e
      obtain rfl : b = (k : Int) := by omega
      have hm := many_fS hG k i (by omega)
      have hs := hp.dry _ (cot_mem h3) _ (spt_mem (k := manyD l (k : Int) i) (by omega))
      dsimp only
      show 0 ≤ (dpt l i).h + p.dip ∧ (dpt l i).h + p.dip ≤ 1073741848 ∧ 0 ≤ (spt (cot p.bs k).dry (manyD l (k : Int) i)).lo ∧ (spt (cot p.bs k).dry (manyD l (k : Int) i)).lo ≤ 1000 ∧ 0 ≤ (spt (cot p.bs k).dry (manyD l (k : Int) i)).hi ∧ (spt (cot p.bs k).dry (manyD l (k : Int) i)).hi ≤ 1000
      omega
    · exact ih
def hgD (p : Pnt) (l : List Dp) (but hour : Int) (i : Nat) : Bool := (lastD p l (i : Int) l.length).2.2 && !decide ((i : Int) = but) && decide ((lastD p l (i : Int) l.length).1 ≤ hour) && decide (hour < (lastD p l (i : Int) l.length).1 + (lastD p l (i : Int) l.length).2.1.hi)
def erO (p : Pnt) (l : List Dp) (x : Dp) : Bool := if 0 < l.length then decide (x.h < (dpt l (l.length - 1)).h + p.dip) else false
def erS (p : Pnt) (l : List Dp) (x : Dp) : Bool := (lastD p l x.b l.length).2.2 && decide (x.h < (lastD p l x.b l.length).1 + (lastD p l x.b l.length).2.1.hi)
def erH (p : Pnt) (l : List Dp) (x : Dp) : Bool := decide (cntB (hgD p l x.b (x.h + p.dip)) p.bs.length ≥ p.racks)
def erL (p : Pnt) (l : List Dp) (x : Dp) : Bool := (lastD p l x.b l.length).2.2 && decide (x.h > (lastD p l x.b l.length).1 + (lastD p l x.b l.length).2.1.lo + (cot p.bs x.b.toNat).late)
end Go.Proofs.Ytibgdkaipleajaa
end

section
set_option linter.unusedVariables false
set_option linter.unusedSimpArgs false
namespace Go.Proofs.Ytibgdkaipleajaa
open Go.AF
/-- The error of a dip, after others that are right. -/
def rgtE (p : Pnt) (l : List Dp) (x : Dp) : Int :=
  if (!inB x.b 0 ((p.bs.length : Int) - 1) || !inB x.h 0 1048576) = true then 2 else if manyD l x.b l.length ≥ (cot p.bs x.b.toNat).dry.length then 9
  else if erO p l x = true then 7 else if erS p l x = true then 6 else if erL p l x = true then 11 else if erH p l x = true then 10 else 0
theorem rgt_in {p : Pnt} {x : Dp} (h : (!inB x.b 0 ((p.bs.length : Int) - 1) || !inB x.h 0 1048576) = false) : ∃ k : Nat, x.b = (k : Int) ∧ k < p.bs.length ∧ 0 ≤ x.h ∧ x.h ≤ 1048576 := by
  unfold inB at h
  simp at h
  exact ⟨x.b.toNat, by omega, by omega, by omega, by omega⟩
end Go.Proofs.Ytibgdkaipleajaa
end

section
set_option linter.unusedVariables false
set_option linter.unusedSimpArgs false
namespace Go.Proofs.Ytibgdkaipleajaa
open Go.AF
def AllOk (p : Pnt) (l : List Dp) (i : Nat) : Prop := ∀ j, j < i → chkE p (csN p l j) (dpt l j) = 0
theorem chk_fr {p : Pnt} {S : Shp} {x : Dp} (h : chkE p S x = 0) : S.fr ≤ x.h := by
  obtain ⟨h1, h2⟩ := chk_0 h
  rw [chk_go h1 h2] at h
  split at h
  · cases h
  · rename_i h3
    have : ¬ x.h < S.fr := fun h4 => h3 (decide_eq_true h4)
    omega
theorem cs_S {p : Pnt} {l : List Dp} {i : Nat} (h : chkE p (csN p l i) (dpt l i) = 0) : csN p l (i + 1) = dipN p (csN p l i) (dpt l i).b.toNat (dpt l i).h := if_pos h
theorem cs_fS {p : Pnt} {l : List Dp} {i : Nat} (hA : AllOk p l i) : ∀ j, j ≤ i → fS p (l.take i) j = csN p l j
  | 0, _ => rfl
  | j + 1, h => by
    have ih := cs_fS hA j (by omega)
    rw [cs_S (hA j (by omega))]
    unfold fS
    rw [ih, dpt_take l (by omega)]
theorem fin_fr {p : Pnt} (hp : Ok p) {l : List Dp} : ∀ i, AllOk p l i → ∀ k, ((csN p l i).had k).fin ≤ (csN p l i).fr
  | 0, _, k => Int.le_refl _
  | i + 1, hA, k => by
    have ih := fin_fr hp i (fun j hj => hA j (by omega)) k
    have h0 := hA i (by omega)
    have h1 := chk_fr h0
    have hd := hp.dip
    rw [cs_S h0]
    show (if k = (dpt l i).b.toNat then hngN p (csN p l i) (dpt l i).b.toNat (dpt l i).h else (csN p l i).had k).fin ≤ (dpt l i).h + p.dip
    split
    · exact Int.le_refl _
    · omega
theorem good_take {p : Pnt} {l : List Dp} {i : Nat} (hi : i ≤ l.length) (hA : AllOk p l i) : Good p (l.take i) := by
  intro j hj
  have hj2 : j < i := by rw [List.length_take] at hj; omega
  obtain ⟨h1, h2⟩ := chk_0 (hA j hj2)
  obtain ⟨k, hk, hkl, hm⟩ := may_0 h1
  have h3 := hour_in h2
  rw [dpt_take l hj2, cs_fS hA j (by omega)]
  exact ⟨k, hk, hkl, hm, h3.1, by omega⟩
theorem hang_cnt {p : Pnt} {S : Shp} {but hour : Int} {f : Nat → Bool} (h : ∀ k, k < p.bs.length → f k = hangB S but hour k) : ∀ k, k ≤ p.bs.length → cntB f k = ((hangF S but hour k).length : Int)
  | 0, _ => rfl
  | k + 1, hk => by
    have ih := hang_cnt h k (by omega)
    unfold cntB
    rw [h k (by omega), ih]
    cases e : hangB S but hour k with
    | true => rw [hangF_T e, List.length_append, if_pos rfl]; show _ = ((_ + 1 : Nat) : Int); omega
    | false => rw [hangF_F e, if_neg (by decide)]
theorem may_2 {p : Pnt} {S : Shp} {b : Int} : decide (mayE p S b = 2) = !inB b 0 ((p.bs.length : Int) - 1) := by
  unfold mayE
  split
  · rename_i h
    rw [h]; rfl
  · rename_i h
    have e : (!inB b 0 ((p.bs.length : Int) - 1)) = false := by simpa using h
    rw [e]
    split <;> rfl
theorem may_9 {p : Pnt} {S : Shp} {k : Nat} (hk : k < p.bs.length) : mayE p S (k : Int) = if (S.had k).many ≥ (cot p.bs k).dry.length then 9 else 0 := by
  unfold mayE
  have h1 : inB (k : Int) 0 ((p.bs.length : Int) - 1) = true := by unfold inB; simp; omega
  rw [h1]
  show (if ((S.had k).many : Int) ≥ ((cot p.bs k).dry.length : Int) then (9 : Int) else 0) = _
  by_cases h : (S.had k).many ≥ (cot p.bs k).dry.length
  · rw [if_pos h, if_pos (by omega)]
  · rw [if_neg h, if_neg (by omega)]
theorem rgt_chk {p : Pnt} (hp : Ok p) {l : List Dp} {i : Nat} (hi : i ≤ l.length) (hA : AllOk p l i) (x : Dp) : rgtE p (l.take i) x = chkE p (csN p l i) x := by
  have hG := good_take hi hA
  have hlen : (l.take i).length = i := by rw [List.length_take]; omega
  have hS : fS p (l.take i) i = csN p l i := cs_fS hA i (Nat.le_refl _)
  unfold rgtE chkE
  rw [may_2]
  split
  · rfl
  · rename_i h0
    obtain ⟨k, hxk, hk, ht0, ht1⟩ := rgt_in (show (!inB x.b 0 ((p.bs.length : Int) - 1) || !inB x.h 0 1048576) = false by simpa using h0)
    obtain ⟨xb, t⟩ := x
    dsimp only at hxk ht0 ht1
    subst hxk
    have hm := many_fS hG k i (by omega)
    rw [hS] at hm
    have hl := last_fS hG k i (by omega)
    rw [hS] at hl
    rw [may_9 hk, hlen, hm]
    show (if ((csN p l i).had k).many ≥ (cot p.bs k).dry.length then (9 : Int) else _) = _
    by_cases h9 : ((csN p l i).had k).many ≥ (cot p.bs k).dry.length
    · rw [if_pos h9, if_pos h9, if_pos (show ¬ (9 : Int) = 0 by decide)]
    · rw [if_neg h9, if_neg h9, if_neg (show ¬ ¬ (0 : Int) = 0 by decide)]
      show _ = (if decide (t < (csN p l i).fr) = true then (7 : Int) else if isWetB (csN p l i) (k : Int) t = true then 6 else if isLateB p (csN p l i) (k : Int) t = true then 11 else if isFullB p (csN p l i) (k : Int) t = true then 10 else 0)
      have eO : erO p (l.take i) ⟨(k : Int), t⟩ = decide (t < (csN p l i).fr) := by
        unfold erO
        rw [hlen]
        cases i with
        | zero =>
          rw [if_neg (by omega)]
          show false = decide (t < 0)
          rw [decide_eq_false (by omega)]
        | succ j =>
          rw [if_pos (by omega), cs_S (hA j (by omega)), Nat.add_sub_cancel, dpt_take l (by omega)]
          rfl
      have eS : erS p (l.take i) ⟨(k : Int), t⟩ = isWetB (csN p l i) (k : Int) t := by
        unfold erS isWetB
        rw [hlen]
        show (_ && _) = (decide ((((csN p l i).had k).many : Int) > 0) && decide (t < ((csN p l i).had k).surely))
        rcases hl with ⟨h1, h2⟩ | ⟨h1, d, h2, h3, h4, h5⟩
        · rw [h2, h1]; rfl
        · rw [h2, h5, decide_eq_true (show (((csN p l i).had k).many : Int) > 0 by omega)]
      have eL : erL p (l.take i) ⟨(k : Int), t⟩ = isLateB p (csN p l i) (k : Int) t := by
        unfold erL isLateB
        rw [hlen]
        show (_ && _) = (decide ((((csN p l i).had k).many : Int) > 0) && decide (t > ((csN p l i).had k).could + (cot p.bs k).late))
        rcases hl with ⟨h1, h2⟩ | ⟨h1, d, h2, h3, h4, h5⟩
        · rw [h2, h1]; rfl
        · rw [h2, h4, decide_eq_true (show (((csN p l i).had k).many : Int) > 0 by omega)]; rfl
      rw [eO, eS, eL]
      by_cases hO : decide (t < (csN p l i).fr) = true
      · rw [if_pos hO, if_pos hO]
      · rw [if_neg hO, if_neg hO]
        have hfr : (csN p l i).fr ≤ t := by
          have : ¬ t < (csN p l i).fr := fun h => hO (decide_eq_true h)
          omega
        have eH : erH p (l.take i) ⟨(k : Int), t⟩ = isFullB p (csN p l i) (k : Int) t := by
          unfold erH isFullB hangL
          have hd := hp.dip
          rw [hang_cnt (S := csN p l i) (but := (k : Int)) (hour := t + p.dip) (fun q hq => ?_) _ (Nat.le_refl _)]
          have hlq := last_fS hG q i (by omega)
          have hf := fin_fr hp i hA q
          rw [hS] at hlq
          unfold hgD hangB
          rw [hlen]
          rcases hlq with ⟨h1, h2⟩ | ⟨h1, d, h2, h3, h4, h5⟩
          · rw [h2, h1]
            show false = _
            simp
          · rw [h2, h5, decide_eq_true (show (((csN p l i).had q).many : Int) > 0 by omega)]
            show (true && !decide ((q : Int) = (k : Int)) && decide (((csN p l i).had q).fin ≤ t + p.dip) && _) = _
            rw [decide_eq_true (show ((csN p l i).had q).fin ≤ t + p.dip by omega)]
            simp
        rw [eH]
end Go.Proofs.Ytibgdkaipleajaa
end

section
set_option linter.unusedVariables false
set_option linter.unusedSimpArgs false
namespace Go.Proofs.Ytibgdkaipleajaa
open Go.AF
def mkD (p : Pnt) (o : List Int) (i : Nat) : List Dp := (List.range i).map fun j => ⟨nt o j, hrI p o j⟩
theorem mkD_len (p : Pnt) (o : List Int) (i : Nat) : (mkD p o i).length = i := by unfold mkD; simp
theorem mkD_at (p : Pnt) (o : List Int) {i j : Nat} (h : j < i) : dpt (mkD p o i) j = ⟨nt o j, hrI p o j⟩ := by
  unfold dpt mkD
  rw [List.getD_eq_getElem?_getD, List.getElem?_map, List.getElem?_range h]
  rfl
theorem mkD_S (p : Pnt) (o : List Int) (i : Nat) : mkD p o (i + 1) = mkD p o i ++ [⟨nt o i, hrI p o i⟩] := by unfold mkD; rw [List.range_succ, List.map_append]; rfl
def NoErr (p : Pnt) (o : List Int) (i : Nat) : Prop := ∀ j, j < i → errI p o j = 0
theorem st_S {p : Pnt} {o : List Int} {i : Nat} (h : errI p o i = 0) : ∃ k : Nat, nt o i = (k : Int) ∧ k < p.bs.length ∧ ((stN p o i).had k).many < (cot p.bs k).dry.length ∧ hrI p o i = timeN p (stN p o i) k ∧ stN p o (i + 1) = dipN p (stN p o i) k (timeN p (stN p o i) k) ∧ ¬ isLateB p (stN p o i) (k : Int) (timeN p (stN p o i) k) = true := by
  obtain ⟨k, hk, hkl, hm, hl, hn⟩ := next_0 (show (nextN p (stN p o i) (nt o i)).2.2 = 0 from h)
  refine ⟨k, hk, hkl, hm, by unfold hrI; rw [hn], by rw [stN, hn], ?_⟩
  rwa [hk] at hl
theorem fS_st {p : Pnt} {o : List Int} {i : Nat} (hE : NoErr p o i) : ∀ j, j ≤ i → fS p (mkD p o i) j = stN p o j
  | 0, _ => rfl
  | j + 1, h => by
    have ih := fS_st hE j (by omega)
    obtain ⟨k, hk, hkl, hm, hr, hs, _⟩ := st_S (hE j (by omega))
    unfold fS
    rw [ih, mkD_at p o (by omega), hs]
    dsimp only
    rw [hk, hr]
    rfl
theorem good_mk {p : Pnt} (hp : Ok p) {o : List Int} {i : Nat} (hi : i ≤ 1000) (hE : NoErr p o i) : Good p (mkD p o i) := by
  intro j hj
  rw [mkD_len] at hj
  obtain ⟨k, hk, hkl, hm, hr, hs, _⟩ := st_S (hE j hj)
  have hb := time_B hp (stN_B hp o j) k
  rw [mkD_at p o hj, fS_st hE j (by omega)]
  exact ⟨k, hk, hkl, hm, by dsimp only; omega, by dsimp only; omega⟩
theorem fr_le {p : Pnt} (hp : Ok p) (S : Shp) (k : Nat) : S.fr ≤ timeN p S k := by
  have h1 := hour_le hp S k
  have h2 : S.fr ≤ hourN S k := by unfold hourN; split <;> omega
  omega
theorem fin_st {p : Pnt} (hp : Ok p) {o : List Int} : ∀ i, NoErr p o i → ∀ q, ((stN p o i).had q).fin ≤ (stN p o i).fr
  | 0, _, q => Int.le_refl _
  | i + 1, hE, q => by
    have ih := fin_st hp i (fun j hj => hE j (by omega)) q
    obtain ⟨k, hk, hkl, hm, hr, hs, _⟩ := st_S (hE i (by omega))
    have h1 := fr_le hp (stN p o i) k
    have hd := hp.dip
    rw [hs]
    show (if q = k then hngN p (stN p o i) k (timeN p (stN p o i) k) else (stN p o i).had q).fin ≤ timeN p (stN p o i) k + p.dip
    split
    · exact Int.le_refl _
    · omega
/-- What the document sees of a dip behind those of an order. -/
theorem ear_st {p : Pnt} (hp : Ok p) {o : List Int} {i : Nat} (hi : i ≤ 1000) (hE : NoErr p o i) {k : Nat} (hk : k < p.bs.length) {t : Int} (h0 : 0 ≤ t) :
    erO p (mkD p o i) ⟨(k : Int), t⟩ = decide (t < (stN p o i).fr) ∧ erS p (mkD p o i) ⟨(k : Int), t⟩ = isWetB (stN p o i) (k : Int) t ∧ erL p (mkD p o i) ⟨(k : Int), t⟩ = isLateB p (stN p o i) (k : Int) t ∧ ((stN p o i).fr ≤ t → erH p (mkD p o i) ⟨(k : Int), t⟩ = isFullB p (stN p o i) (k : Int) t) ∧ manyD (mkD p o i) (k : Int) i = ((stN p o i).had k).many := by
  have hG := good_mk hp hi hE
  have hlen := mkD_len p o i
  have hS := fS_st hE i (Nat.le_refl _)
  have hm := many_fS hG k i (by omega)
  rw [hS] at hm
  have hl := last_fS hG k i (by omega)
  rw [hS] at hl
  refine ⟨?_, ?_, ?_, fun hfr => ?_, hm⟩
  · unfold erO
    rw [hlen]
    cases i with
    | zero =>
      rw [if_neg (by omega)]
      show false = decide (t < 0)
      rw [decide_eq_false (by omega)]
    | succ j =>
      obtain ⟨k2, h2, _, _, hr, hs, _⟩ := st_S (hE j (by omega))
      rw [if_pos (by omega), hs, Nat.add_sub_cancel, mkD_at p o (by omega), hr]
      rfl
  · unfold erS isWetB
    rw [hlen]
    show (_ && _) = (decide ((((stN p o i).had k).many : Int) > 0) && decide (t < ((stN p o i).had k).surely))
    rcases hl with ⟨h1, h2⟩ | ⟨h1, d, h2, h3, h4, h5⟩
    · rw [h2, h1]; rfl
    · rw [h2, h5, decide_eq_true (show (((stN p o i).had k).many : Int) > 0 by omega)]
  · unfold erL isLateB
    rw [hlen]
    show (_ && _) = (decide ((((stN p o i).had k).many : Int) > 0) && decide (t > ((stN p o i).had k).could + (cot p.bs k).late))
    rcases hl with ⟨h1, h2⟩ | ⟨h1, d, h2, h3, h4, h5⟩
    · rw [h2, h1]; rfl
    · rw [h2, h4, decide_eq_true (show (((stN p o i).had k).many : Int) > 0 by omega)]; rfl
  · unfold erH isFullB hangL
    have hd := hp.dip
    rw [hang_cnt (S := stN p o i) (but := (k : Int)) (hour := t + p.dip) (fun q hq => ?_) _ (Nat.le_refl _)]
    have hlq := last_fS hG q i (by omega)
    have hf := fin_st hp i hE q
    rw [hS] at hlq
    unfold hgD hangB
    rw [hlen]
    rcases hlq with ⟨h1, h2⟩ | ⟨h1, d, h2, h3, h4, h5⟩
    · rw [h2, h1]
      show false = _
      simp
    · rw [h2, h5, decide_eq_true (show (((stN p o i).had q).many : Int) > 0 by omega)]
      show (true && !decide ((q : Int) = (k : Int)) && decide (((stN p o i).had q).fin ≤ t + p.dip) && _) = _
      rw [decide_eq_true (show ((stN p o i).had q).fin ≤ t + p.dip by omega)]
      simp
def earB (p : Pnt) (l : List Dp) (x : Dp) : Bool := erO p l x || erS p l x || erH p l x
theorem ear_at {p : Pnt} (hp : Ok p) {o : List Int} {i : Nat} (hi : i ≤ 1000) (hE : NoErr p o i) {k : Nat} (hk : k < p.bs.length) : earB p (mkD p o i) ⟨(k : Int), timeN p (stN p o i) k⟩ = false := by
  have hb := time_B hp (stN_B hp o i) k
  obtain ⟨e1, e2, _, e4, _⟩ := ear_st hp hi hE hk hb.1
  have h1 := fr_le hp (stN p o i) k
  have h2 := hour_le hp (stN p o i) k
  have h3 := time_free hp (stN p o i) k
  unfold earB
  rw [e1, e2, e4 h1, decide_eq_false (by omega)]
  have ew : isWetB (stN p o i) (k : Int) (timeN p (stN p o i) k) = false := by
    show (decide ((((stN p o i).had k).many : Int) > 0) && decide (timeN p (stN p o i) k < ((stN p o i).had k).surely)) = false
    rw [Bool.and_eq_false_iff]
    by_cases hm : (((stN p o i).had k).many : Int) > 0
    · right
      have : hourN (stN p o i) k = max (stN p o i).fr ((stN p o i).had k).surely := if_pos hm
      rw [decide_eq_false (by omega)]
    · left
      rw [decide_eq_false hm]
  have ef : isFullB p (stN p o i) (k : Int) (timeN p (stN p o i) k) = false := by
    unfold isFullB
    rw [decide_eq_false (by omega)]
  rw [ew, ef]
  rfl
theorem ear_lt {p : Pnt} (hp : Ok p) {o : List Int} {i : Nat} (hi : i ≤ 1000) (hE : NoErr p o i) {k : Nat} (hk : k < p.bs.length) {t : Int} (h0 : 0 ≤ t) (hlt : t < timeN p (stN p o i) k) : earB p (mkD p o i) ⟨(k : Int), t⟩ = true := by
  obtain ⟨e1, e2, _, e4, _⟩ := ear_st hp hi hE hk h0
  unfold earB
  rw [e1, e2]
  by_cases h1 : t < (stN p o i).fr
  · rw [decide_eq_true h1]; rfl
  · rw [e4 (by omega)]
    by_cases h2 : hourN (stN p o i) k ≤ t
    · have h3 := time_least hp (stN p o i) k h2 hlt
      have ef : isFullB p (stN p o i) (k : Int) t = true := by
        unfold isFullB
        rw [decide_eq_true h3]
      rw [ef, Bool.or_true]
    · have ew : isWetB (stN p o i) (k : Int) t = true := by
        show (decide ((((stN p o i).had k).many : Int) > 0) && decide (t < ((stN p o i).had k).surely)) = true
        unfold hourN at h2
        split at h2
        · rename_i hm
          rw [decide_eq_true hm, decide_eq_true (by omega)]; rfl
        · omega
      rw [ew, Bool.or_true]; rfl
end Go.Proofs.Ytibgdkaipleajaa
end

section
set_option linter.unusedVariables false
set_option linter.unusedSimpArgs false
namespace Go.Proofs.Ytibgdkaipleajaa
open Go.AF
theorem err_2 {p : Pnt} {o : List Int} {i : Nat} (h : (!inB (nt o i) 0 ((p.bs.length : Int) - 1)) = true) : errI p o i = 2 := by
  have e : mayE p (stN p o i) (nt o i) = 2 := if_pos h
  unfold errI nextN
  rw [e, if_pos (by decide)]
theorem err_9 {p : Pnt} {o : List Int} {i k : Nat} (hk : nt o i = (k : Int)) (hkl : k < p.bs.length) (h : ((stN p o i).had k).many ≥ (cot p.bs k).dry.length) : errI p o i = 9 := by
  have e : mayE p (stN p o i) (nt o i) = 9 := by rw [hk, may_9 hkl, if_pos h]
  unfold errI nextN
  rw [e, if_pos (by decide)]
theorem may_ok0 {p : Pnt} {o : List Int} {i k : Nat} (hk : nt o i = (k : Int)) (hkl : k < p.bs.length) (h : ¬ ((stN p o i).had k).many ≥ (cot p.bs k).dry.length) : mayE p (stN p o i) (nt o i) = 0 := by rw [hk, may_9 hkl, if_neg h]
theorem err_11 {p : Pnt} {o : List Int} {i k : Nat} (hk : nt o i = (k : Int)) (hm : mayE p (stN p o i) (nt o i) = 0) (h : isLateB p (stN p o i) (k : Int) (timeN p (stN p o i) k) = true) : errI p o i = 11 := by
  unfold errI nextN
  rw [if_neg (not_not_intro hm), hk]
  show (if isLateB p (stN p o i) (k : Int) (timeN p (stN p o i) k) = true then _ else _ : Shp × Int × Int).2.2 = 11
  rw [if_pos h]
theorem err_0 {p : Pnt} {o : List Int} {i k : Nat} (hk : nt o i = (k : Int)) (hm : mayE p (stN p o i) (nt o i) = 0) (h : ¬ isLateB p (stN p o i) (k : Int) (timeN p (stN p o i) k) = true) : errI p o i = 0 ∧ hrI p o i = timeN p (stN p o i) k := by
  have e : nextN p (stN p o i) (nt o i) = (dipN p (stN p o i) k (timeN p (stN p o i) k), timeN p (stN p o i) k, 0) := by
    unfold nextN
    rw [if_neg (not_not_intro hm), hk]
    exact if_neg h
  unfold errI hrI
  rw [e]
  exact ⟨rfl, rfl⟩
/-- From where the document looks for an hour. -/
def stH (p : Pnt) (o : List Int) : Nat → Int
  | 0 => 0
  | i + 1 => hrI p o i
theorem stH_B {p : Pnt} (hp : Ok p) {o : List Int} {i : Nat} (hE : NoErr p o i) (k : Nat) : 0 ≤ stH p o i ∧ stH p o i ≤ timeN p (stN p o i) k := by
  cases i with
  | zero => exact ⟨Int.le_refl _, (time_B hp shp0_B k).1⟩
  | succ j =>
    obtain ⟨k2, h1, h2, h3, h4, h5, _⟩ := st_S (hE j (by omega))
    have h6 := time_B hp (stN_B hp o j) k2
    have h7 := fr_le hp (stN p o (j + 1)) k
    have h8 : (stN p o (j + 1)).fr = timeN p (stN p o j) k2 + p.dip := by rw [h5]; rfl
    have hd := hp.dip
    show 0 ≤ hrI p o j ∧ hrI p o j ≤ _
    rw [h4]
    omega
def dipR (p : Pnt) (o : List Int) : PV := .tuple [if (timesR p o).2.2 = 0 then dpsV (mkD p o o.length) else .nilSlice, .int .i64 (timesR p o).2.1, .int .i64 (timesR p o).2.2]
end Go.Proofs.Ytibgdkaipleajaa
end

section
set_option linter.unusedVariables false
set_option linter.unusedSimpArgs false
namespace Go.Proofs.Ytibgdkaipleajaa
open Go.AF
def endD (p : Pnt) (o : List Int) (hour : Int) : Nat → List Dp
  | 0 => []
  | i + 1 => if hrI p o i + p.dip ≤ hour then endD p o hour i ++ [⟨nt o i, hrI p o i⟩] else endD p o hour i
theorem endD_len (p : Pnt) (o : List Int) (hour : Int) : ∀ i, (endD p o hour i).length ≤ i
  | 0 => Nat.le_refl _
  | i + 1 => by
    have := endD_len p o hour i
    unfold endD
    split
    · rw [List.length_append]; show _ + 1 ≤ _; omega
    · omega
theorem dpt_app {l m : List Dp} {j : Nat} (h : j < l.length) : dpt (l ++ m) j = dpt l j := by
  unfold dpt
  rw [List.getD_eq_getElem?_getD, List.getD_eq_getElem?_getD, List.getElem?_append_left h]
theorem dpt_end (l : List Dp) (x : Dp) : dpt (l ++ [x]) l.length = x := by
  unfold dpt
  rw [List.getD_eq_getElem?_getD, List.getElem?_append_right (Nat.le_refl _)]
  simp
theorem fS_app (p : Pnt) (l m : List Dp) : ∀ j, j ≤ l.length → fS p (l ++ m) j = fS p l j
  | 0, _ => rfl
  | j + 1, h => by
    have ih := fS_app p l m j (by omega)
    unfold fS
    rw [ih, dpt_app (by omega)]
theorem fS_snoc (p : Pnt) (l : List Dp) (x : Dp) : fS p (l ++ [x]) (l ++ [x]).length = dipN p (fS p l l.length) x.b.toNat x.h := by
  rw [List.length_append]
  show dipN p (fS p (l ++ [x]) l.length) (dpt (l ++ [x]) l.length).b.toNat (dpt (l ++ [x]) l.length).h = _
  rw [fS_app p l [x] l.length (Nat.le_refl _), dpt_end]
theorem good_snoc {p : Pnt} {l : List Dp} (h : Good p l) {k : Nat} {t : Int} (hk : k < p.bs.length) (hm : ((fS p l l.length).had k).many < (cot p.bs k).dry.length) (h0 : 0 ≤ t) (h1 : t ≤ 1073741824) : Good p (l ++ [⟨(k : Int), t⟩]) := by
  intro j hj
  rw [List.length_append] at hj
  have hj2 : j < l.length + 1 := hj
  rcases Nat.lt_succ_iff_lt_or_eq.1 hj2 with h2 | rfl
  · rw [dpt_app h2, fS_app p l _ j (by omega)]
    exact h j h2
  · rw [dpt_end, fS_app p l _ l.length (Nat.le_refl _)]
    exact ⟨k, rfl, hk, hm, h0, h1⟩
/-- The ended dips lead to the shop that Wet looks at. -/
theorem end_ws {p : Pnt} (hp : Ok p) {o : List Int} (hour : Int) : ∀ i : Nat, i ≤ 1000 → NoErr p o i → fS p (endD p o hour i) (endD p o hour i).length = wsN p o hour i ∧ Good p (endD p o hour i)
  | 0, _, _ => ⟨rfl, fun j hj => by cases hj⟩
  | i + 1, hi, hE => by
    obtain ⟨h1, h2⟩ := end_ws hp hour i (by omega) fun j hj => hE j (by omega)
    obtain ⟨k, hk, hkl, hm, hB, h3, h4⟩ := ws_in hp o hour (i := i) hE
    unfold endD
    rw [wsN]
    split
    · refine ⟨?_, ?_⟩
      · rw [fS_snoc, h1]
      · rw [hk]
        exact good_snoc h2 hkl (by rw [h1]; exact hm) h3 (by omega)
    · exact ⟨h1, h2⟩
/-- What is seen of a batch's last ended dip. -/
theorem end_seen {p : Pnt} (hp : Ok p) {o : List Int} (hour : Int) {i : Nat} (hi : i ≤ 1000) (hE : NoErr p o i) (k : Nat) :
    ((lastD p (endD p o hour i) (k : Int) (endD p o hour i).length).2.2 && decide (hour - (lastD p (endD p o hour i) (k : Int) (endD p o hour i).length).1 < (lastD p (endD p o hour i) (k : Int) (endD p o hour i).length).2.1.lo)) = wl (wsN p o hour i) hour k ∧
    ((lastD p (endD p o hour i) (k : Int) (endD p o hour i).length).2.2 && decide (hour - (lastD p (endD p o hour i) (k : Int) (endD p o hour i).length).1 < (lastD p (endD p o hour i) (k : Int) (endD p o hour i).length).2.1.hi)) = wh (wsN p o hour i) hour k := by
  obtain ⟨h1, h2⟩ := end_ws hp hour i hi hE
  have hl := last_fS h2 k _ (Nat.le_refl _)
  rw [h1] at hl
  unfold wl wh
  rcases hl with ⟨e1, e2⟩ | ⟨e1, d, e2, e3, e4, e5⟩
  · rw [e2, e1]
    exact ⟨rfl, rfl⟩
  · rw [e2, e4, e5, decide_eq_true (show (((wsN p o hour i).had k).many : Int) > 0 by omega)]
    refine ⟨?_, ?_⟩
    · show (true && decide (hour - ((wsN p o hour i).had k).fin < d.lo)) = (true && decide (hour < ((wsN p o hour i).had k).fin + d.lo))
      congr 1
      exact decide_eq_decide.2 (by omega)
    · show (true && decide (hour - ((wsN p o hour i).had k).fin < d.hi)) = (true && decide (hour < ((wsN p o hour i).had k).fin + d.hi))
      congr 1
      exact decide_eq_decide.2 (by omega)
/-- Batches that there are none of have had no coat. -/
theorem ws_out {p : Pnt} (hp : Ok p) {o : List Int} (hour : Int) : ∀ i : Nat, NoErr p o i → ∀ k, p.bs.length ≤ k → ((wsN p o hour i).had k).many = 0
  | 0, _, k, _ => rfl
  | i + 1, hE, k, hk => by
    have ih := ws_out hp hour i (fun j hj => hE j (by omega)) k hk
    obtain ⟨k2, h2, hkl, _⟩ := ws_in hp o hour (i := i) hE
    rw [wsN]
    split
    · rw [h2]
      show (if k = k2 then hngN p (wsN p o hour i) k2 (hrI p o i) else (wsN p o hour i).had k).many = 0
      rw [if_neg (by omega)]
      exact ih
    · exact ih
theorem cnt_out {f : Nat → Bool} {n : Nat} (h : ∀ k, n ≤ k → f k = false) : ∀ m, n ≤ m → cntB f m = cntB f n
  | 0, hm => by rw [show n = 0 by omega]
  | m + 1, hm => by
    rcases Nat.lt_or_ge n (m + 1) with h1 | h1
    · have ih := cnt_out h m (by omega)
      rw [show cntB f (m + 1) = if f m = true then cntB f m + 1 else cntB f m from rfl, h m (by omega), if_neg (by decide), ih]
    · rw [show n = m + 1 by omega]
end Go.Proofs.Ytibgdkaipleajaa
end

section
set_option linter.unusedVariables false
namespace Go.Proofs.Ytibgdkaipleajaa
open Go.AF
theorem one_of_int {x : PV} (h : Ty (.leaf (.int .i64)) x) : ∃ n : Int, x = .int .i64 n := by
  cases h with
  | int _ n _ => exact ⟨n, rfl⟩
theorem int1_of {el : List PV} (h : TyL [.leaf (.int .i64)] el) : ∃ n : Int, el = i1 n := by
  obtain ⟨n, e⟩ := int_of h
  exact ⟨n, e⟩
theorem intl_of {x : List PV} (h : TyL [.sl [.leaf (.int .i64)]] x) : ∃ c : List Int, x = [intsV c] ∧ c.length ≤ bigN :=
  sl_of (f := i1) (fun el => int1_of) h
theorem u8_of {x : List PV} (h : TyL [.leaf (.int .u8)] x) : ∃ n : Nat, x = [.int .u8 (n : Int)] ∧ n ≤ 255 := by
  obtain ⟨n, e, h1, h2⟩ := kint_of .u8 h
  have a1 : (0 : Int) ≤ n := h1
  have a2 : n ≤ 255 := h2
  exact ⟨n.toNat, by rw [e, Int.toNat_of_nonneg a1], by omega⟩
theorem u16_of {x : List PV} (h : TyL [.leaf (.int .u16)] x) : ∃ n : Nat, x = [.int .u16 (n : Int)] ∧ n ≤ 65535 := by
  obtain ⟨n, e, h1, h2⟩ := kint_of .u16 h
  have a1 : (0 : Int) ≤ n := h1
  have a2 : n ≤ 65535 := h2
  exact ⟨n.toNat, by rw [e, Int.toNat_of_nonneg a1], by omega⟩
theorem spn_of {el : List PV} (h : TyL [.leaf (.int .i64), .leaf (.int .i64)] el) : ∃ t : Spn, el = t.cells := by
  obtain ⟨xs, h1, h2⟩ := ints_of (n := 2) h
  match xs, h1 with
  | [a, b], _ => exact ⟨⟨a, b⟩, h2⟩
theorem dp_of {el : List PV} (h : TyL [.leaf (.int .i64), .leaf (.int .i64)] el) : ∃ t : Dp, el = t.cells := by
  obtain ⟨xs, h1, h2⟩ := ints_of (n := 2) h
  match xs, h1 with
  | [a, b], _ => exact ⟨⟨a, b⟩, h2⟩
theorem dps_of {x : List PV} (h : TyL [.sl [.leaf (.int .i64), .leaf (.int .i64)]] x) : ∃ c : List Dp, x = [dpsV c] ∧ c.length ≤ bigN :=
  sl_of (f := Dp.cells) (fun el => dp_of) h
theorem cot_of {el : List PV} (h : TyL [.sl [.leaf (.int .i64), .leaf (.int .i64)], .leaf (.int .i64)] el) : ∃ l : Cot, el = l.cells := by
  cases h with | cons _ _ x0 _ a0 h =>
  cases h with | cons _ _ x1 _ a1 h =>
  cases h
  obtain ⟨n1, rfl⟩ := one_of_int a1
  obtain ⟨l, e1, e2⟩ := sl_of (f := Spn.cells) (fun el => spn_of) (.cons _ _ _ _ a0 .nil)
  simp only [List.cons.injEq, and_true] at e1
  subst e1
  exact ⟨⟨l, n1⟩, rfl⟩
theorem pnt_of {x : List PV} (h : TyL [.leaf (.int .i64), .leaf (.int .i64), .sl [.sl [.leaf (.int .i64), .leaf (.int .i64)], .leaf (.int .i64)]] x) : ∃ p : Pnt, x = pntC p ∧ p.bs.length ≤ bigN := by
  cases h with | cons _ _ x0 _ a0 h =>
  cases h with | cons _ _ x1 _ a1 h =>
  cases h with | cons _ _ x2 _ a2 h =>
  cases h
  obtain ⟨n0, rfl⟩ := one_of_int a0
  obtain ⟨n1, rfl⟩ := one_of_int a1
  obtain ⟨l, e1, e2⟩ := sl_of (f := Cot.cells) (fun el => cot_of) (.cons _ _ _ _ a2 .nil)
  simp only [List.cons.injEq, and_true] at e1
  subst e1
  exact ⟨⟨n0, n1, l⟩, rfl, e2⟩
end Go.Proofs.Ytibgdkaipleajaa
end
