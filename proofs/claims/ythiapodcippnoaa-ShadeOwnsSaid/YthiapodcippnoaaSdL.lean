/-
  From what the statements' arguments of chapter 2 may hold to plain data. No condition.
-/
import Derived.Test.YthiapodcippnoaaSdR
set_option linter.unusedVariables false
namespace Go.Proofs.Ythiapodcippnoaa
open Go.AF
theorem tn_of {el : List PV} (h : TyL [.leaf (.int .i64), .leaf (.int .i64)] el) : ∃ t : Tnt, el = t.cells := by
  obtain ⟨xs, h1, h2⟩ := ints_of (n := 2) h
  match xs, h1 with
  | [a, b], _ => exact ⟨⟨a, b⟩, h2⟩
theorem stk_of {el : List PV} (h : TyL [.leaf (.int .i64), .leaf (.int .i64), .leaf (.int .i64), .leaf (.int .i64)] el) : ∃ t : Stk, el = t.cells := by
  obtain ⟨xs, h1, h2⟩ := ints_of (n := 4) h
  match xs, h1 with
  | [a, b, c, d], _ => exact ⟨⟨a, b, c, d⟩, h2⟩
theorem scl_of {el : List PV} (h : TyL [.leaf (.int .i64), .leaf (.int .i64), .leaf (.int .i64), .leaf (.int .i64)] el) : ∃ t : Scl, el = t.cells := by
  obtain ⟨xs, h1, h2⟩ := ints_of (n := 4) h
  match xs, h1 with
  | [a, b, c, d], _ => exact ⟨⟨a, b, c, d⟩, h2⟩
theorem shd_of {el : List PV} (h : TyL [.leaf (.int .i64), .leaf (.int .i64), .leaf (.int .i64), .leaf (.int .i64), .leaf (.int .i64), .leaf (.int .i64)] el) : ∃ t : Shd, el = t.cells := by
  obtain ⟨xs, h1, h2⟩ := ints_of (n := 6) h
  match xs, h1 with
  | [a, b, c, d, e, f], _ => exact ⟨⟨a, b, c, d, e, f⟩, h2⟩
theorem one_of_int {x : PV} (h : Ty (.leaf (.int .i64)) x) : ∃ n : Int, x = .int .i64 n := by
  cases h with
  | int _ n _ => exact ⟨n, rfl⟩
theorem ld_of {el : List PV} (h : TyL [.leaf (.int .i64), .leaf (.int .i64), .leaf (.int .i64), .leaf (.int .i64), .leaf (.int .i64), .sl [.leaf (.int .i64), .leaf (.int .i64), .leaf (.int .i64), .leaf (.int .i64)], .leaf (.int .i64), .leaf (.int .i64), .leaf (.int .i64), .leaf (.int .i64), .leaf (.int .i64)] el) : ∃ l : Lds, el = l.cells ∧ l.st.length ≤ bigN := by
  cases h with | cons _ _ x0 _ a0 h =>
  cases h with | cons _ _ x1 _ a1 h =>
  cases h with | cons _ _ x2 _ a2 h =>
  cases h with | cons _ _ x3 _ a3 h =>
  cases h with | cons _ _ x4 _ a4 h =>
  cases h with | cons _ _ x5 _ a5 h =>
  cases h with | cons _ _ x6 _ a6 h =>
  cases h with | cons _ _ x7 _ a7 h =>
  cases h with | cons _ _ x8 _ a8 h =>
  cases h with | cons _ _ x9 _ a9 h =>
  cases h with | cons _ _ y0 _ b0 h =>
  cases h
  obtain ⟨n0, rfl⟩ := one_of_int a0
  obtain ⟨n1, rfl⟩ := one_of_int a1
  obtain ⟨n2, rfl⟩ := one_of_int a2
  obtain ⟨n3, rfl⟩ := one_of_int a3
  obtain ⟨n4, rfl⟩ := one_of_int a4
  obtain ⟨n6, rfl⟩ := one_of_int a6
  obtain ⟨n7, rfl⟩ := one_of_int a7
  obtain ⟨n8, rfl⟩ := one_of_int a8
  obtain ⟨n9, rfl⟩ := one_of_int a9
  obtain ⟨m0, rfl⟩ := one_of_int b0
  obtain ⟨l, e1, e2⟩ := sl_of (f := Stk.cells) (fun el => stk_of) (.cons _ _ _ _ a5 .nil)
  simp only [List.cons.injEq, and_true] at e1
  subst e1
  exact ⟨⟨n0, n1, n2, n3, n4, l, n6, n7, n8, n9, m0⟩, rfl, e2⟩
theorem lds_of {x : List PV} (h : TyL [.sl [.leaf (.int .i64), .leaf (.int .i64), .leaf (.int .i64), .leaf (.int .i64), .leaf (.int .i64), .sl [.leaf (.int .i64), .leaf (.int .i64), .leaf (.int .i64), .leaf (.int .i64)], .leaf (.int .i64), .leaf (.int .i64), .leaf (.int .i64), .leaf (.int .i64), .leaf (.int .i64)]] x) : ∃ l : List Lds, x = [ldsV l] ∧ l.length ≤ bigN ∧ ∀ y ∈ l, y.st.length ≤ bigN := by
  obtain ⟨l, e1, e2⟩ := sl_of (α := { y : Lds // y.st.length ≤ bigN }) (f := fun y => y.1.cells) (fun el h => by
    obtain ⟨l, h1, h2⟩ := ld_of h
    exact ⟨⟨l, h2⟩, h1⟩) h
  refine ⟨l.map (·.1), ?_, by rw [List.length_map]; exact e2, fun y hy => ?_⟩
  · rw [e1]
    unfold ldsV
    rw [List.flatMap_map, List.length_map]
  · obtain ⟨z, _, rfl⟩ := List.mem_map.1 hy
    exact z.2
theorem cur_of {x : List PV} (h : TyL [.sl [.leaf (.int .i64), .leaf (.int .i64)]] x) : ∃ c : List Tnt, x = [curV c] ∧ c.length ≤ bigN :=
  sl_of (f := Tnt.cells) (fun el => tn_of) h
theorem shds_of {x : List PV} (h : TyL [.sl [.leaf (.int .i64), .leaf (.int .i64), .leaf (.int .i64), .leaf (.int .i64), .leaf (.int .i64), .leaf (.int .i64)]] x) : ∃ c : List Shd, x = [shdV c] ∧ c.length ≤ bigN :=
  sl_of (f := Shd.cells) (fun el => shd_of) h
theorem int1_of {el : List PV} (h : TyL [.leaf (.int .i64)] el) : ∃ n : Int, el = i1 n := by
  obtain ⟨n, e⟩ := int_of h
  exact ⟨n, e⟩
theorem intl_of {x : List PV} (h : TyL [.sl [.leaf (.int .i64)]] x) : ∃ c : List Int, x = [intsV c] ∧ c.length ≤ bigN :=
  sl_of (f := i1) (fun el => int1_of) h
theorem u8_of {x : List PV} (h : TyL [.leaf (.int .u8)] x) : ∃ n : Nat, x = [.int .u8 (n : Int)] ∧ n ≤ 255 := by
  obtain ⟨n, e, h1, h2⟩ := kint_of .u8 h
  have a1 : (0 : Int) ≤ n := h1
  have a2 : n ≤ 255 := h2
  exact ⟨n.toNat, by rw [e, Int.toNat_of_nonneg a1], by omega⟩
theorem tmodN (a b : Nat) : Int.tmod (a : Int) (b : Int) = ((a % b : Nat) : Int) := rfl
theorem hasR_len (c : List Tnt) (s : List Shd) (l : Lds) : (hasR c s l).1.length ≤ s.length := by
  unfold hasR
  split
  · exact idxs_len _ _
  · exact Nat.zero_le _
theorem idxs_pre (p : Nat → Bool) {m : Nat} : ∀ {n : Nat}, m ≤ n → idxs p m <+: idxs p n := by
  intro n
  induction n with
  | zero => intro h; obtain rfl : m = 0 := by omega
            exact List.prefix_refl _
  | succ n ih =>
    intro h
    rcases Nat.lt_or_ge m (n + 1) with h1 | h1
    · refine (ih (by omega)).trans ?_
      conv => rhs; unfold idxs
      split
      · exact List.prefix_append _ _
      · exact List.prefix_refl _
    · obtain rfl : m = n + 1 := by omega
      exact List.prefix_refl _
theorem idxs_at {p : Nat → Bool} {i n : Nat} (hp : p i = true) (h : i < n) : (idxs p i).length < (idxs p n).length ∧ nt (idxs p n) (idxs p i).length = (i : Int) := by
  have h1 := idxs_pre p (show i + 1 ≤ n by omega)
  have e : idxs p (i + 1) = idxs p i ++ [(i : Int)] := by
    conv => lhs; unfold idxs
    rw [if_pos hp]
  rw [e] at h1
  obtain ⟨t, ht⟩ := h1
  rw [← ht]
  refine ⟨by simp, ?_⟩
  unfold nt
  rw [List.getD_eq_getElem?_getD, List.append_assoc, List.getElem?_append_right (Nat.le_refl _), Nat.sub_self]
  rfl
theorem hasR_zero {c : List Tnt} {s : List Shd} {l : Lds} (e : (hasR c s l).2 = 0) : (hasR c s l).1 = idxs (fun i => hasQ c (sh s i) l) s.length := by
  unfold hasR at e ⊢
  split
  · rfl
  · rename_i h
    rw [if_neg h] at e
    exact absurd e h
theorem hasR_err {c : List Tnt} {s : List Shd} {l : Lds} (e : (hasR c s l).2 ≠ 0) : (hasR c s l).1 = [] := by
  unfold hasR at e ⊢
  split
  · rename_i h
    rw [if_pos h] at e
    exact absurd rfl e
  · rfl
theorem blackR_err {c : List Tnt} {l : Lds} (e : (blackR c l).2 ≠ 0) : (blackR c l).1 = (0, 0) ∧ ((blackR c l).2 = 1 ↔ ¬ okC c) := by
  rw [blackR_eq] at e ⊢
  by_cases hC : okC c
  · cases hL : ldB l <;> cases hB : blkB c l <;> simp_all
  · simp [hC]
structure BlkOk (c : List Tnt) (l : Lds) : Prop where
  oc : okC c
  ol : OkL l
  ob : 0 ≤ (blk c l).1 ∧ (blk c l).1 ≤ (blk c l).2 ∧ (blk c l).2 ≤ 200
theorem blackR_ok {c : List Tnt} {l : Lds} (e : (blackR c l).2 = 0) : BlkOk c l := by
  rw [blackR_eq] at e
  split at e
  · rename_i hC
    split at e
    · rename_i hL
      split at e
      · rename_i hB
        have h := meets_B (srcs c l)
        have h2 : (blk c l).1 ≤ (blk c l).2 := of_decide_eq_true hB
        exact ⟨hC, (ldB_iff l).1 hL, h.1, h2, h.2⟩
      · simp at e
    · simp at e
  · simp at e
end Go.Proofs.Ythiapodcippnoaa
