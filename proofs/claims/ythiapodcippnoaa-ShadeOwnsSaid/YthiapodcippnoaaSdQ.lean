/-
  Plain data of chapter 2, more: division, what says how black leads can be, errors, shades that leads have, pairs in order. No program in sight.
-/
import Derived.Test.YthiapodcippnoaaSdP
import Derived.Test.YthiapodcippnoaaAfJ
set_option linter.unusedVariables false
set_option linter.unusedSimpArgs false
namespace Go.Proofs.Ythiapodcippnoaa
open Go.AF
theorem divB {a b : Int} (ha : 0 ≤ a) (hb : 1 ≤ b) : Int.tdiv a b = a / b ∧ 0 ≤ a / b ∧ a / b ≤ a :=
  ⟨Int.tdiv_eq_ediv_of_nonneg ha, Int.ediv_nonneg ha (by omega), Int.ediv_le_self b ha⟩
theorem mulN {a b A B : Int} (a0 : -A ≤ a) (a1 : a ≤ A) (b0 : 0 ≤ b) (b1 : b ≤ B) : -(A * B) ≤ a * b ∧ a * b ≤ A * B := by
  have h1 := Int.mul_le_mul_of_nonneg_right a1 b0
  have h2 := Int.mul_le_mul_of_nonneg_right a0 b0
  have h3 := Int.mul_le_mul_of_nonneg_left b1 (show 0 ≤ A by omega)
  rw [Int.neg_mul] at h2
  omega
/-- What says how black leads can be: none: the recipe; some: a stroke. -/
def srcV (c : List Tnt) (l : Lds) : Option Stk → PV
  | none => .iface 128 (.agg (curV c :: l.cells))
  | some s => .iface 131 (.agg s.cells)
def srcC (c : List Tnt) (l : Lds) (x : Option Stk) : List PV := [srcV c l x]
def srcL (l : Lds) (g : Nat) : List (Option Stk) := none :: (l.st.take g).map some
def srcB (c : List Tnt) (l : Lds) : Option Stk → Int × Int
  | none => recB c l
  | some s => stkBd s
theorem srcC_len (c : List Tnt) (l : Lds) : ∀ x, (srcC c l x).length = 1 := fun _ => rfl
theorem srcL_length (l : Lds) (g : Nat) (h : g ≤ l.st.length) : (srcL l g).length = g + 1 := by
  unfold srcL
  rw [List.length_cons, List.length_map, List.length_take_of_le h]
theorem srcL_succ {l : Lds} {g : Nat} (h : g < l.st.length) : srcL l (g + 1) = srcL l g ++ [some l.st[g]] := by
  unfold srcL
  rw [List.take_succ_eq_append_getElem h, List.map_append]; rfl
def srcAt (l : Lds) (i : Nat) : Option Stk := (srcL l l.st.length).getD i none
theorem srcL_get (l : Lds) : ∀ k (h : k < (srcL l l.st.length).length), (srcL l l.st.length)[k] = srcAt l k := fun k h => by
  unfold srcAt
  rw [List.getD_eq_getElem?_getD, List.getElem?_eq_getElem h]; rfl
theorem srcs_eq (c : List Tnt) (l : Lds) : srcs c l = (srcL l l.st.length).map (srcB c l) := by
  unfold srcs srcL
  rw [List.take_length, List.map_cons, List.map_map]; rfl
def blkN (c : List Tnt) (l : Lds) (k : Nat) : Int × Int := meets ((srcs c l).take k)
theorem blkN_zero (c : List Tnt) (l : Lds) : blkN c l 0 = (0, 200) := rfl
theorem blkN_succ {c : List Tnt} {l : Lds} {k : Nat} (h : k < l.st.length + 1) : blkN c l (k + 1) = meet (blkN c l k) (srcB c l (srcAt l k)) := by
  unfold blkN
  rw [meets_take (by rw [srcs_length]; exact h)]
  congr 1
  have e := srcs_eq c l
  have h2 : k < (srcL l l.st.length).length := by rw [srcL_length l _ (Nat.le_refl _)]; exact h
  have e2 : (srcs c l)[k]'(by rw [srcs_length]; exact h) = ((srcL l l.st.length).map (srcB c l))[k]'(by simpa using h2) := by congr 1
  rw [e2, List.getElem_map, srcL_get l k h2]
theorem blkN_all (c : List Tnt) (l : Lds) : blkN c l (l.st.length + 1) = blk c l := by
  unfold blkN blk
  rw [List.take_of_length_le (by rw [srcs_length]; exact Nat.le_refl _)]
def blkB (c : List Tnt) (l : Lds) : Bool := decide ((blk c l).1 ≤ (blk c l).2)
/-- The other text's span, of the first numbers. -/
def spanF (c : List Tnt) (l : Lds) (g : Nat) : Bool := decide ((blk c l).1 ≤ (blk c l).2 ∧ (blk c l).1 < (g : Int))
def spanN (c : List Tnt) (l : Lds) (g : Nat) : Int × Int := if spanF c l g then ((blk c l).1, min (blk c l).2 ((g : Int) - 1)) else (0, 0)
theorem spanF_zero (c : List Tnt) (l : Lds) : spanF c l 0 = false := decide_eq_false fun h => by
  have := (meets_B (srcs c l)).1
  have h2 := h.2
  unfold blk at h2
  omega
theorem spanN_zero (c : List Tnt) (l : Lds) : spanN c l 0 = (0, 0) := by
  unfold spanN
  rw [spanF_zero]; rfl
theorem spanF_yes {c : List Tnt} {l : Lds} {i : Nat} (h : (blk c l).1 ≤ i ∧ (i : Int) ≤ (blk c l).2) : spanF c l (i + 1) = true := decide_eq_true (by omega)
theorem spanN_yes {c : List Tnt} {l : Lds} {i : Nat} (h : (blk c l).1 ≤ i ∧ (i : Int) ≤ (blk c l).2) : spanN c l (i + 1) = ((blk c l).1, (i : Int)) := by
  unfold spanN
  rw [spanF_yes h, if_pos rfl]
  congr 1
  omega
theorem spanN_lo {c : List Tnt} {l : Lds} {i : Nat} (h : (blk c l).1 ≤ i ∧ (i : Int) ≤ (blk c l).2) (hf : ¬ ((blk c l).1 ≤ (blk c l).2 ∧ (blk c l).1 < (i : Int))) : (blk c l).1 = (i : Int) := by omega
theorem spanN_in {c : List Tnt} {l : Lds} {i : Nat} (hf : (blk c l).1 ≤ (blk c l).2 ∧ (blk c l).1 < (i : Int)) : spanN c l i = ((blk c l).1, min (blk c l).2 ((i : Int) - 1)) := by
  unfold spanN
  rw [show spanF c l i = true from decide_eq_true hf]; rfl
theorem spanF_no {c : List Tnt} {l : Lds} {i : Nat} (h : ¬ ((blk c l).1 ≤ i ∧ (i : Int) ≤ (blk c l).2)) : spanF c l (i + 1) = spanF c l i := decide_eq_decide.2 (by omega)
theorem spanN_no {c : List Tnt} {l : Lds} {i : Nat} (h : ¬ ((blk c l).1 ≤ i ∧ (i : Int) ≤ (blk c l).2)) : spanN c l (i + 1) = spanN c l i := by
  unfold spanN
  rw [spanF_no h]
  cases hs : spanF c l i with
  | false => rfl
  | true =>
    have := of_decide_eq_true hs
    rw [if_pos rfl, if_pos rfl]
    congr 1
    omega
theorem spanN_all (c : List Tnt) (l : Lds) : spanF c l 201 = blkB c l ∧ spanN c l 201 = if blkB c l then blk c l else (0, 0) := by
  have hb := meets_B (srcs c l)
  have e : spanF c l 201 = blkB c l := decide_eq_decide.2 (by unfold blk; omega)
  refine ⟨e, ?_⟩
  unfold spanN
  rw [e]
  cases h : blkB c l with
  | false => rfl
  | true =>
    rw [if_pos rfl, if_pos rfl]
    apply Prod.ext
    · rfl
    · unfold blk; dsimp only; omega
theorem srcAt_mem {l : Lds} {k : Nat} {s : Stk} (h : srcAt l k = some s) : s ∈ l.st := by
  unfold srcAt at h
  rw [List.getD_eq_getElem?_getD] at h
  cases e : (srcL l l.st.length)[k]? with
  | none => rw [e] at h; cases h
  | some y =>
    rw [e] at h
    obtain rfl : y = some s := h
    have := List.mem_of_getElem? e
    unfold srcL at this
    simpa using this
theorem stkBd_B {s : Stk} (h : okS s) : 0 ≤ (stkBd s).1 ∧ (stkBd s).1 ≤ 1000000 ∧ 0 ≤ (stkBd s).2 ∧ (stkBd s).2 ≤ 1000000 := by
  unfold okS at h
  have h1 := upI_B (t := 1000 * s.rlo) (u := s.phi) (B := 1000000) (by omega) (by omega) (by omega)
  have h2 := dnI_B (t := 1000 * s.rhi) (u := s.plo) (B := 1000000) (by omega) (by omega) (by omega)
  exact ⟨h1.1, h1.2, h2.1, h2.2⟩
structure RecW (c : List Tnt) (g cl : Int) : Prop where
  u : 0 ≤ upI (topI c g cl) (undI c g cl) ∧ upI (topI c g cl) (undI c g cl) ≤ 200
  d : 0 ≤ dnI (topI c g cl) (undI c g cl) ∧ dnI (topI c g cl) (undI c g cl) ≤ 200
theorem rec_ok {c : List Tnt} (h : okC c) {g cl : Int} (hg : 1 ≤ g) (hg2 : g ≤ 1073741824) (hc : 0 ≤ cl) (hc2 : cl ≤ 1073741824) : RecW c g cl := by
  have q := frac_ok h hg hg2 hc hc2
  exact ⟨upI_B q.u.1 q.t.1 q.t.2, dnI_B q.u.1 q.t.1 q.t.2⟩

theorem ldB_st_false {l : Lds} {s : Stk} (hs : s ∈ l.st) (h : stkB s = false) : ldB l = false := by
  unfold ldB
  have : l.st.all stkB = false := by
    rw [Bool.eq_false_iff]
    intro h2
    rw [List.all_eq_true.1 h2 s hs] at h
    cases h
  rw [this, Bool.and_false]
theorem ldB_st_true {l : Lds} (h : ∀ x ∈ l.st, stkB x = true) : ldB l = (decide (l.st.length ≤ 6) && spB l.glo l.ghi 1 1073741824 && spB l.clo l.chi 0 1073741824 && inB l.tol 0 200 && spB l.slo l.shi 0 10000 && spB l.wlo l.whi 0 10000 && inB l.many 0 1048576) := by
  unfold ldB
  rw [List.all_eq_true.2 h]
  cases spB l.glo l.ghi 1 1073741824 <;> cases spB l.clo l.chi 0 1073741824 <;> cases inB l.tol 0 200 <;> cases spB l.slo l.shi 0 10000 <;> cases spB l.wlo l.whi 0 10000 <;> cases inB l.many 0 1048576 <;> cases decide (l.st.length ≤ 6) <;> rfl
theorem all_false {α : Type} {p : α → Bool} {xs : List α} {x : α} (hx : x ∈ xs) (h : p x = false) : xs.all p = false := by
  rw [Bool.eq_false_iff]
  intro h2
  rw [List.all_eq_true.1 h2 x hx] at h
  cases h
/-! ### Errors -/
def okAll (ls : List Lds) : Bool := ls.all ldB
def openE (c : List Tnt) (ls : List Lds) (most : Int) (valid : Bool) : Int :=
  if ¬ okC c then 1 else if most < ls.length then 3 else if (!valid || ls.any fun l => !ldB l) = true then 2 else if (ls.any fun l => !blkB c l) = true then 6 else 0
def toB (c : List Tnt) (l : Lds) : Bch := ⟨l, (blk c l).1, (blk c l).2⟩
def openL (c : List Tnt) (ls : List Lds) (most : Int) (valid : Bool) : List Bch := if openE c ls most valid = 0 then ls.map (toB c) else []
structure Opn (c : List Tnt) (ls : List Lds) (most : Int) (valid : Bool) : Prop where
  oc : okC c
  on : (ls.length : Int) ≤ most
  ov : valid = true
  ol : ∀ l ∈ ls, OkL l
  ob : ∀ l ∈ ls, (blk c l).1 ≤ (blk c l).2
theorem any_not {α : Type} {p : α → Bool} {xs : List α} : (xs.any fun x => !p x) = false ↔ ∀ x ∈ xs, p x = true := by
  rw [List.any_eq_false]
  simp
theorem openE_zero {c : List Tnt} {ls : List Lds} {most : Int} {valid : Bool} : openE c ls most valid = 0 ↔ Opn c ls most valid := by
  unfold openE
  constructor
  · intro h
    split at h; · omega
    split at h; · omega
    split at h; · omega
    split at h; · omega
    rename_i h1 h2 h3 h4
    simp only [Bool.or_eq_true, not_or, Bool.not_eq_true] at h3 h4
    rw [any_not] at h3 h4
    exact ⟨Classical.not_not.1 h1, by omega, by simpa using h3.1, fun l hl => (ldB_iff l).1 (h3.2 l hl), fun l hl => of_decide_eq_true (h4 l hl)⟩
  · intro h
    rw [if_neg (fun k => k h.oc), if_neg (by have := h.on; omega), if_neg (by
      rw [h.ov]
      simp only [Bool.not_true, Bool.false_or, Bool.not_eq_true]
      exact any_not.2 fun l hl => (ldB_iff l).2 (h.ol l hl)), if_neg (by
      simp only [Bool.not_eq_true]
      exact any_not.2 fun l hl => decide_eq_true (h.ob l hl))]
theorem any_not_at {α : Type} {p : α → Bool} {xs : List α} {x : α} (hx : x ∈ xs) (h : p x = false) : (xs.any fun x => !p x) = true :=
  List.any_eq_true.2 ⟨x, hx, by rw [h]; rfl⟩
theorem openL_one {c : List Tnt} {l : Lds} {most : Int} {valid : Bool} (e : openE c [l] most valid = 0) : openL c [l] most valid = [toB c l] := by
  unfold openL
  rw [e]; rfl
/-- Black: the span and the error. -/
def blackR (c : List Tnt) (l : Lds) : (Int × Int) × Int := if openE c [l] 1 true = 0 then (blk c l, 0) else ((0, 0), openE c [l] 1 true)
theorem blackR_eq (c : List Tnt) (l : Lds) : blackR c l = if okC c then (if ldB l = true then (if blkB c l = true then (blk c l, 0) else ((0, 0), 6)) else ((0, 0), 2)) else ((0, 0), 1) := by
  unfold blackR openE
  by_cases hC : okC c
  · cases hL : ldB l <;> cases hB : blkB c l <;> simp [hC, hL, hB]
  · simp [hC]
def hasQ (c : List Tnt) (s : Shd) (l : Lds) : Bool := decide (s.blo ≤ (blk c l).1 ∧ (blk c l).2 ≤ s.bhi ∧ s.slo ≤ l.slo ∧ l.shi ≤ s.shi ∧ s.wlo ≤ l.wlo ∧ l.whi ≤ s.whi)
/-- The indices at which a predicate holds, of the first ones. -/
def idxs (p : Nat → Bool) : Nat → List Int
  | 0 => []
  | n + 1 => if p n then idxs p n ++ [(n : Int)] else idxs p n
theorem idxs_len (p : Nat → Bool) : ∀ n, (idxs p n).length ≤ n
  | 0 => Nat.le_refl _
  | n + 1 => by
    have := idxs_len p n
    unfold idxs
    split
    · rw [List.length_append]; simp; omega
    · omega
def sh (s : List Shd) (i : Nat) : Shd := s.getD i ⟨0, 0, 0, 0, 0, 0⟩
theorem sh_get {s : List Shd} {i : Nat} (h : i < s.length) : s[i] = sh s i := by
  unfold sh
  rw [List.getD_eq_getElem?_getD, List.getElem?_eq_getElem h]; rfl
def hasE (c : List Tnt) (s : List Shd) (l : Lds) : Int := if okC c ∧ 8 < s.length then 3 else openE c [l] 1 (!s.any fun x => !shdB x)
def hasR (c : List Tnt) (s : List Shd) (l : Lds) : List Int × Int := if hasE c s l = 0 then (idxs (fun i => hasQ c (sh s i) l) s.length, 0) else ([], hasE c s l)
def ownS (c : List Tnt) (l : Lds) : Shd := ⟨(blk c l).1, (blk c l).2, l.slo, l.shi, l.wlo, l.whi⟩
theorem hasE_eq (c : List Tnt) (s : List Shd) (l : Lds) : hasE c s l = if okC c then (if 8 < s.length then 3 else if (ldB l && s.all shdB) = true then (blackR c l).2 else 2) else 1 := by
  have e : (!s.any fun x => !shdB x) = s.all shdB := by rw [List.all_eq_not_any_not]
  unfold hasE
  rw [e, blackR_eq]
  unfold openE
  by_cases hC : okC c
  · by_cases h8 : 8 < s.length
    · simp [hC, h8]
    · cases hL : ldB l <;> cases hB : blkB c l <;> cases hS : s.all shdB <;> simp [hC, hL, hB, h8]
  · simp [hC]
theorem blackR_fst {c : List Tnt} {l : Lds} (e : (blackR c l).2 = 0) : (blackR c l).1 = blk c l := by
  unfold blackR at e ⊢
  split
  · rfl
  · rename_i h
    rw [if_neg h] at e
    exact absurd e h
def grtB (c : List Tnt) (ls : List Lds) : Bool := (ls.any fun l => decide (12 < l.st.length)) || (decide (14 < c.length) || decide (16 < ls.length))
theorem dec14 (n : Nat) : decide ((n : Int) > 14) = decide (14 < n) := decide_eq_decide.2 (by omega)
theorem dec16 (n : Nat) : decide ((n : Int) > 16) = decide (16 < n) := decide_eq_decide.2 (by omega)
theorem grt_no {ls : List Lds} (h : ∀ x ∈ ls, x.st.length ≤ 12) : (ls.any fun l => decide (12 < l.st.length)) = false := by
  rw [List.any_eq_false]
  intro x hx
  have := h x hx
  simp; omega
def ld (l : List Lds) (i : Nat) : Lds := l.getD i ⟨0, 0, 0, 0, 0, [], 0, 0, 0, 0, 0⟩
theorem ld_get {l : List Lds} {i : Nat} (h : i < l.length) : l[i] = ld l i := by
  unfold ld
  rw [List.getD_eq_getElem?_getD, List.getElem?_eq_getElem h]; rfl
theorem ld_mem {l : List Lds} {i : Nat} (h : i < l.length) : ld l i ∈ l := by rw [← ld_get h]; exact List.getElem_mem _
def stk (l : List Stk) (i : Nat) : Stk := l.getD i ⟨0, 0, 0, 0⟩
theorem stk_get {l : List Stk} {i : Nat} (h : i < l.length) : l[i] = stk l i := by
  unfold stk
  rw [List.getD_eq_getElem?_getD, List.getElem?_eq_getElem h]; rfl
theorem stk_mem {l : List Stk} {i : Nat} (h : i < l.length) : stk l i ∈ l := by rw [← stk_get h]; exact List.getElem_mem _
def bc (l : List Bch) (i : Nat) : Bch := l.getD i ⟨⟨0, 0, 0, 0, 0, [], 0, 0, 0, 0, 0⟩, 0, 0⟩
theorem bc_get {l : List Bch} {i : Nat} (h : i < l.length) : l[i] = bc l i := by
  unfold bc
  rw [List.getD_eq_getElem?_getD, List.getElem?_eq_getElem h]; rfl
def nt (l : List Int) (i : Nat) : Int := l.getD i 0
theorem nt_get {l : List Int} {i : Nat} (h : i < l.length) : l[i] = nt l i := by
  unfold nt
  rw [List.getD_eq_getElem?_getD, List.getElem?_eq_getElem h]; rfl
theorem nt_ext {a b : List Int} (hl : a.length = b.length) (h : ∀ j, j < a.length → nt a j = nt b j) : a = b := by
  apply List.ext_getElem hl
  intro i h1 h2
  rw [nt_get h1, nt_get h2]
  exact h i h1
theorem bc_map (c : List Tnt) (ls : List Lds) {i : Nat} (h : i < ls.length) : bc (ls.map (toB c)) i = toB c (ld ls i) := by
  rw [← bc_get (by simpa using h), List.getElem_map, ld_get h]
end Go.Proofs.Ythiapodcippnoaa
