/-
  From what the statements' arguments of chapter 14 may hold to plain data. No condition.
  Chapter 14: the laws of what is written and read, in plain words.
  Chapter 14: what is read is written as just the same bytes; how texts end.
  Chapter 14: lists that are cut, and joined again.
  Chapter 14: of two different lists the files differ.
  Chapter 14: what the reference computes, as plain functions: figures, items.
  Chapter 14: what the reference computes, as plain functions: packs.
  Chapter 14: what the reference writes of reports and cards.
  Chapter 14: what reports the reference reads.
  Chapter 14: what cards the reference reads.
-/
import Derived.Test.YtplofbjppcbchaaDoorMzVP
import Derived.Test.YtplofbjppcbchaaDoorPmV
import Derived.Test.YtplofbjppcbchaaDoorFaVE
section
set_option linter.unusedVariables false
namespace Go.Proofs.YtplofbjppcbchaaDoor
open Go Go.AF
theorem lst_ofC {α : Type} {f : α → List PV} {C : α → Prop} {p : List PV → Prop} (hp : ∀ el, p el → ∃ a, el = f a ∧ C a) : ∀ els : List (List PV), (∀ (i : Nat) (el : List PV), els[i]? = some el → p el) → ∃ l : List α, els.flatten = l.flatMap f ∧ l.length = els.length ∧ ∀ a ∈ l, C a
  | [], _ => ⟨[], rfl, rfl, fun a ha => by cases ha⟩
  | e :: els, h => by
    obtain ⟨a, ha, hc⟩ := hp e (h 0 e rfl)
    obtain ⟨l, h1, h2, h3⟩ := lst_ofC hp els (fun i el hi => h (i + 1) el (by simpa using hi))
    refine ⟨a :: l, by simp [ha, h1], by simp [h2], fun b hb => ?_⟩
    rcases List.mem_cons.1 hb with rfl | hb
    · exact hc
    · exact h3 b hb
theorem sl_ofC {α : Type} {f : α → List PV} {C : α → Prop} {sh : List Sh} (hp : ∀ el, TyL sh el → ∃ a, el = f a ∧ C a) {x : List PV} (h : TyL [.sl sh] x) : ∃ l : List α, x = [.is (l.flatMap f) l.length] ∧ l.length ≤ bigN ∧ ∀ a ∈ l, C a := by
  cases h with
  | cons _ _ y ys h1 h2 =>
    cases h2
    cases h1 with
    | sl _ els hl hel =>
      obtain ⟨l, e1, e2, e3⟩ := lst_ofC hp els hel
      exact ⟨l, by rw [e1, e2], by rw [e2]; exact hl, e3⟩
theorem one_of_int {x : PV} (h : Ty (.leaf (.int .i64)) x) : ∃ n : Int, x = .int .i64 n := by
  cases h with
  | int _ n _ => exact ⟨n, rfl⟩
theorem str_of {x : List PV} (h : TyL [.leaf .string] x) : ∃ s : Bs, x = [.str (sB s)] := by
  cases h with
  | cons _ _ y ys h1 h2 =>
    cases h2
    cases h1 with
    | str s hs => exact ⟨s.data.toList, rfl⟩
theorem stk_of {el : List PV} (h : TyL [.leaf (.int .i64), .leaf (.int .i64), .leaf (.int .i64), .leaf (.int .i64)] el) : ∃ s : Stk, el = s.cells := by
  obtain ⟨xs, h1, h2⟩ := ints_of (n := 4) h
  match xs, h1 with
  | [a, b, c, d], _ => exact ⟨⟨⟨a, b⟩, ⟨c, d⟩⟩, h2⟩
abbrev shR : List Sh := [.leaf (.int .i64), .sl [.leaf (.int .i64), .leaf (.int .i64), .leaf (.int .i64), .leaf (.int .i64)], .leaf (.int .i64), .leaf (.int .i64), .leaf (.int .i64), .leaf (.int .i64)]
abbrev shC : List Sh := [.leaf (.int .i64), .leaf (.int .i64), .leaf (.int .i64), .leaf (.int .i64), .leaf (.int .i64)]
abbrev shP : List Sh := [.leaf (.int .i64), .sl [.leaf (.int .i64)]]
theorem rpt_of {el : List PV} (h : TyL shR el) : ∃ r : Rpt, el = r.cells ∧ r.strokes.length ≤ bigN := by
  cases h with | cons _ _ x0 _ a0 h =>
  cases h with | cons _ _ x1 _ a1 h =>
  cases h with | cons _ _ x2 _ a2 h =>
  cases h with | cons _ _ x3 _ a3 h =>
  cases h with | cons _ _ x4 _ a4 h =>
  cases h with | cons _ _ x5 _ a5 h =>
  cases h
  obtain ⟨n0, rfl⟩ := one_of_int a0
  obtain ⟨n2, rfl⟩ := one_of_int a2
  obtain ⟨n3, rfl⟩ := one_of_int a3
  obtain ⟨n4, rfl⟩ := one_of_int a4
  obtain ⟨n5, rfl⟩ := one_of_int a5
  obtain ⟨l, e1, e2⟩ := sl_of (f := Stk.cells) (fun el => stk_of) (.cons _ _ _ _ a1 .nil)
  simp only [List.cons.injEq, and_true] at e1
  subst e1
  exact ⟨⟨n0, l, ⟨n2, n3⟩, ⟨n4, n5⟩⟩, rfl, e2⟩
theorem rpts_of {x : List PV} (h : TyL [.sl shR] x) : ∃ l : List Rpt, x = [rptsV l] ∧ l.length ≤ bigN ∧ ∀ r ∈ l, r.strokes.length ≤ bigN := sl_ofC (f := Rpt.cells) (fun el => rpt_of) h
theorem crd_of {el : List PV} (h : TyL shC el) : ∃ c : Crd, el = c.cells := by
  obtain ⟨xs, h1, h2⟩ := ints_of (n := 5) h
  match xs, h1 with
  | [a, b, c, d, e], _ => exact ⟨⟨a, b, c, d, e⟩, h2⟩
theorem crds_of {x : List PV} (h : TyL [.sl shC] x) : ∃ l : List Crd, x = [crdsV l] ∧ l.length ≤ bigN := sl_of (f := Crd.cells) (fun el => crd_of) h
theorem int1_of {el : List PV} (h : TyL [.leaf (.int .i64)] el) : ∃ n : Int, el = intC n := int_of h
theorem pck_of {el : List PV} (h : TyL shP el) : ∃ p : Pck, el = p.cells ∧ p.colours.length ≤ bigN := by
  cases h with | cons _ _ x0 _ a0 h =>
  cases h with | cons _ _ x1 _ a1 h =>
  cases h
  obtain ⟨n0, rfl⟩ := one_of_int a0
  obtain ⟨l, e1, e2⟩ := sl_of (f := intC) (fun el => int1_of) (.cons _ _ _ _ a1 .nil)
  simp only [List.cons.injEq, and_true] at e1
  subst e1
  exact ⟨⟨n0, l⟩, rfl, e2⟩
theorem pcks_of {x : List PV} (h : TyL [.sl shP] x) : ∃ l : List Pck, x = [pcksV l] ∧ l.length ≤ bigN ∧ ∀ p ∈ l, p.colours.length ≤ bigN := sl_ofC (f := Pck.cells) (fun el => pck_of) h
end Go.Proofs.YtplofbjppcbchaaDoor
end

section
set_option linter.unusedVariables false
set_option linter.unusedSimpArgs false
namespace Go.Proofs.YtplofbjppcbchaaDoor
open Go Go.AF
end Go.Proofs.YtplofbjppcbchaaDoor
end

section
set_option linter.unusedVariables false
set_option linter.unusedSimpArgs false
namespace Go.Proofs.YtplofbjppcbchaaDoor
open Go Go.AF
theorem opn_forms {α : Type} (rd : Bs → Option (List α)) (ok : List α → Bool) (val : List α → PV) {s : Bs} (hs : s.length ≤ 65536) : (∃ l, rd s = some l ∧ ok l = true ∧ opnP rd ok val s = (val l, 0)) ∨ opnP rd ok val s = (.nilSlice, 8) := by
  cases hr : rd s with
  | none => exact .inr (opn_no hs hr)
  | some l =>
    cases hk : ok l with
    | true => exact .inl ⟨l, rfl, hk, opn_ok hs hr hk⟩
    | false => exact .inr (opn_bad hs hr hk)
theorem wrP_of {l : List Pck} (hl : l.length ≤ 30) (h : pcksB l = true) : wrP l = (pcksT l, 0) := wrP_yes (chk_ok (by omega) h)
theorem pcksB_n {l : List Pck} (h : pcksB l = true) : ∀ p ∈ l, p.colours.length ≤ bigN := fun r hr => Nat.le_trans (pckB_some (rise_all h (by decide) r hr).2.2.2).2.2 (by decide)
theorem rdP_forms {s : Bs} (hs : s.length ≤ 65536) : ∃ v e n, rdP s = (v, e) ∧ alen (.p v) = some n ∧ ((e = 0 ∧ ∃ l, v = pcksV l ∧ l.length ≤ 30 ∧ pcksB l = true ∧ s = pcksT l ∧ wrP l = (s, 0)) ∨ (e = 8 ∧ n = 0 ∧ v = .nilSlice)) := by
  rcases opn_forms (lstG pckR 30) pcksB pcksV hs with ⟨l, h1, h2, h3⟩ | h
  · have hE : opP s = (pcksV l, 0) := h3
    have hl : l.length ≤ 30 := (lstG_all (C := fun _ => True) (N := 65536) (fun r x q _ hx => ⟨trivial, pckR_len hx⟩) 30 s l hs h1).1
    have hw := wrP_of hl h2
    by_cases hx : (wrP l).1 = s
    · have e3 : s = pcksT l := by rw [hw] at hx; exact hx.symm
      exact ⟨_, _, l.length, rdP_ok (by rw [hE]) h1 hx, rfl, .inl ⟨rfl, l, rfl, hl, h2, e3, by rw [hw, ← e3]⟩⟩
    · exact ⟨_, _, 0, rdP_no (by rw [hE]) h1 hx, rfl, .inr ⟨rfl, rfl, rfl⟩⟩
  · have hE : opP s = (.nilSlice, 8) := h
    exact ⟨_, _, 0, by rw [rdP_e (by rw [hE]; decide), hE], rfl, .inr ⟨rfl, rfl, rfl⟩⟩
end Go.Proofs.YtplofbjppcbchaaDoor
end

section
set_option linter.unusedVariables false
set_option linter.unusedSimpArgs false
namespace Go.Proofs.YtplofbjppcbchaaDoor
open Go Go.AF
section
variable {α : Type} {num : α → Int} {right : α → Bool}
end
end Go.Proofs.YtplofbjppcbchaaDoor
end

section
set_option linter.unusedVariables false
set_option linter.unusedSimpArgs false
namespace Go.Proofs.YtplofbjppcbchaaDoor
open Go Go.AF
theorem oneAll {α : Type} {f : α → List PV} (h : ∀ x, (((f x).map V.p).all oneV) = true) (l : List α) : (((l.flatMap f).map V.p).all oneV) = true := by
  rw [List.all_eq_true]
  intro v hv
  rw [List.map_flatMap, List.mem_flatMap] at hv
  obtain ⟨x, _, hx⟩ := hv
  exact List.all_eq_true.1 (h x) v hx
end Go.Proofs.YtplofbjppcbchaaDoor
end

section
set_option linter.unusedVariables false
set_option linter.unusedSimpArgs false
namespace Go.Proofs.YtplofbjppcbchaaDoor
open Go Go.AF
/-! ### Figures -/
def figP (s : Bs) : Nat × Nat := if digN s ≤ 9 then (valD (s.take (digN s)), digN s) else (0, 0)
theorem fig_yes {s : Bs} (h : digN s ≤ 9) : figP s = (valD (s.take (digN s)), digN s) := by unfold figP; rw [if_pos h]
theorem fig_no {s : Bs} (h : 9 < digN s) : figP s = (0, 0) := by unfold figP; rw [if_neg (by omega)]
theorem dig_lt {s : Bs} {i : Nat} (h : i ≤ digN s) (hi : i < s.length) (hd : digB (gt 0 s i) = true) : i < digN s := by
  rcases Nat.lt_or_ge i (digN s) with h2 | h2
  · exact h2
  · have e : i = digN s := by omega
    have := digN_end s (gt 0 s i) (by rw [← e, List.getElem?_eq_getElem hi, gt_get 0 i hi])
    rw [this] at hd
    cases hd
theorem dig_eq {s : Bs} {i : Nat} (h : i ≤ digN s) (hd : ∀ hi : i < s.length, digB (gt 0 s i) = false) : digN s = i := by
  rcases Nat.lt_or_ge i (digN s) with h2 | h2
  · obtain ⟨b, h3, h4⟩ := digN_at s i h2
    obtain ⟨h5, h6⟩ := List.getElem?_eq_some_iff.1 h3
    have := hd h5
    rw [← gt_get 0 i h5, h6, h4] at this
    cases this
  · omega
theorem val_lt2 {s : Bs} {i : Nat} (h : i ≤ digN s) (h9 : i ≤ 10) : valD (s.take i) < 10000000000 := by
  have h1 := valD_lt _ (s.take i) (Nat.le_refl _) (dig_all s i h)
  have h2 : (s.take i).length ≤ 10 := by rw [List.length_take]; omega
  have h3 : (10 : Nat) ^ (s.take i).length ≤ 10 ^ 10 := Nat.pow_le_pow_right (by decide) h2
  have h4 : (10 : Nat) ^ 10 = 10000000000 := by decide
  omega
theorem val_st {s : Bs} {i : Nat} (hi : i < s.length) : valD (s.take (i + 1)) = 10 * valD (s.take i) + ((gt 0 s i).toNat - 48) := by
  rw [List.take_succ_eq_append_getElem hi, valD_app, gt_get 0 i hi]
theorem fig_c {s : Bs} {i : Nat} {b : Bool} (h : ((decide ((i : Int) < (s.length : Int)) && decide (((gt 0 s i).toNat : Int) ≥ 48)) && decide (((gt 0 s i).toNat : Int) ≤ 57)) = b) : (b = true → i < s.length ∧ digB (gt 0 s i) = true) ∧ (b = false → ∀ hi : i < s.length, digB (gt 0 s i) = false) := by
  subst h
  unfold digB
  refine ⟨fun h => ?_, fun h hi => ?_⟩
  · simp only [Bool.and_eq_true, decide_eq_true_eq] at h ⊢
    omega
  · simp only [Bool.and_eq_false_iff, decide_eq_false_iff_not] at h ⊢
    omega
theorem fig_le (s : Bs) : (figP s).2 ≤ s.length := by
  have := digN_le s
  unfold figP
  split
  · exact this
  · exact Nat.zero_le _
theorem fig_lt (s : Bs) : (figP s).1 < 1000000000 := by
  unfold figP
  split
  · rename_i h; exact val_lt (Nat.le_refl _) h
  · decide
theorem fig_itoa {n : Int} {t : Bs} (h0 : 0 ≤ n) (h1 : n < 1000000000) (ht : ndH t) : figP (Lib.itoa n ++ t) = (n.toNat, (Lib.itoa n).length) := by
  obtain ⟨u, rfl⟩ := Int.eq_ofNat_of_zero_le h0
  rw [itoa_cast]
  have hd := digN_app (dec_all u) ht
  have h9 := dec_len9 (u := u) (by omega)
  rw [fig_yes (by omega), hd, List.take_left, dec_val]
  rfl
theorem dec_len13 (n : Nat) (h : n < 10000000000000) : (Lib.decDigits n).length ≤ 13 := dec_len 12 n (by
  have : (10 : Nat) ^ (12 + 1) = 10000000000000 := by decide
  omega)
/-! ### Groups, from the front -/
def glue : Int → Nat → List Int → List Itm
  | c, m, [] => [⟨c, c, m⟩]
  | c, m, d :: l => if d = c then glue c (m + 1) l else ⟨c, c, m⟩ :: glue d 1 l
theorem addC_last (A : List Itm) (c d : Int) (m : Nat) : addC (A ++ [⟨c, c, m⟩]) d = if d = c then A ++ [⟨c, c, m + 1⟩] else A ++ [⟨c, c, m⟩] ++ [⟨d, d, 1⟩] := by
  split
  · rename_i h
    rw [addC_yes (by simp) (by rw [gt_last]; exact h.symm), gt_last, show (A ++ [(⟨c, c, m⟩ : Itm)]).length - 1 = A.length by simp, List.set_append_right _ _ (Nat.le_refl _), Nat.sub_self]
    rfl
  · rename_i h
    rw [addC_no (fun e => h (by rw [gt_last] at e; exact e.2.symm))]
theorem fold_glue : ∀ (l : List Int) (A : List Itm) (c : Int) (m : Nat), l.foldl addC (A ++ [⟨c, c, m⟩]) = A ++ glue c m l
  | [], A, c, m => rfl
  | d :: l, A, c, m => by
    rw [List.foldl_cons, addC_last, glue]
    split
    · exact fold_glue l A c (m + 1)
    · rw [fold_glue l (A ++ [(⟨c, c, m⟩ : Itm)]) d 1, List.append_assoc]; rfl
theorem grp_cons (c : Int) (l : List Int) : grp (c :: l) = glue c 1 l := fold_glue l [] c 1
theorem glue_new {c : Int} {m : Nat} {l : List Int} (h : l[0]? ≠ some c) : glue c m l = ⟨c, c, m⟩ :: grp l := by
  cases l with
  | nil => rfl
  | cons d l =>
    rw [glue, if_neg (fun e => h (by rw [e]; rfl)), grp_cons]
theorem glue_head : ∀ (l : List Int) (c : Int) (m : Nat), ∃ k R, glue c m l = ⟨c, c, k⟩ :: R ∧ m ≤ k ∧ (l[0]? = some c → m < k)
  | [], c, m => ⟨m, [], rfl, Nat.le_refl _, fun h => by cases h⟩
  | d :: l, c, m => by
    by_cases h : d = c
    · obtain ⟨k, R, h1, h2, _⟩ := glue_head l c (m + 1)
      exact ⟨k, R, by rw [glue, if_pos h]; exact h1, by omega, fun _ => by omega⟩
    · exact ⟨m, _, by rw [glue, if_neg h], Nat.le_refl _, fun e => absurd (Option.some.inj e) h⟩
theorem drop0 (l : List Int) (i : Nat) : (l.drop i)[0]? = l[i]? := by rw [List.getElem?_drop, Nat.add_zero]
theorem at_gt {l : List Int} {i : Nat} (h : i < l.length) : l[i]? = some (gt 0 l i) := by rw [List.getElem?_eq_getElem h, gt_get 0 i h]
theorem glue_run {l : List Int} {c : Int} : ∀ (n i m : Nat), i + n ≤ l.length → (∀ j, i ≤ j → j < i + n → gt 0 l j = c) → (i + n < l.length → gt 0 l (i + n) ≠ c) → glue c m (l.drop i) = ⟨c, c, m + n⟩ :: grp (l.drop (i + n))
  | 0, i, m, _, _, h3 => by
    rw [Nat.add_zero] at *
    refine glue_new fun e => ?_
    rw [drop0] at e
    rcases Nat.lt_or_ge i l.length with h | h
    · rw [at_gt h] at e
      exact h3 h (Option.some.inj e)
    · rw [List.getElem?_eq_none h] at e; cases e
  | n + 1, i, m, h1, h2, h3 => by
    rw [drop_gt 0 l i (by omega), glue, if_pos (h2 i (Nat.le_refl _) (by omega)), glue_run n (i + 1) (m + 1) (by omega) (fun j a b => h2 j (by omega) (by omega)) (by rw [show i + 1 + n = i + (n + 1) by omega]; exact h3), show i + 1 + n = i + (n + 1) by omega, show m + 1 + n = m + (n + 1) by omega]
/-- All that are the same. -/
theorem grp_same {l : List Int} {i g : Nat} (hg : i < g) (hl : g ≤ l.length) (hs : ∀ j, i ≤ j → j < g → gt 0 l j = gt 0 l i) (he : g < l.length → gt 0 l g ≠ gt 0 l i) : grp (l.drop i) = ⟨gt 0 l i, gt 0 l i, g - i⟩ :: grp (l.drop g) := by
  rw [drop_gt 0 l i (by omega), grp_cons, glue_run (g - (i + 1)) (i + 1) 1 (by omega) (fun j a b => hs j (by omega) (by omega)) (by rw [show i + 1 + (g - (i + 1)) = g by omega]; exact he), show i + 1 + (g - (i + 1)) = g by omega, show 1 + (g - (i + 1)) = g - i by omega]
theorem grp_one {l : List Int} {i : Nat} (hl : i < l.length) (he : i + 1 < l.length → gt 0 l (i + 1) ≠ gt 0 l i) : grp (l.drop i) = ⟨gt 0 l i, gt 0 l i, 1⟩ :: grp (l.drop (i + 1)) := by
  have := grp_same (l := l) (i := i) (g := i + 1) (by omega) (by omega) (fun j a b => by rw [show j = i by omega]) he
  rwa [show i + 1 - i = 1 by omega] at this
/-- What follows, one after the other. -/
theorem grp_chain {l : List Int} {i : Nat} : ∀ (n : Nat), i + 1 + n ≤ l.length → (∀ j, i < j → j < i + 1 + n → gt 0 l j = gt 0 l (j - 1) + 1 ∧ (j + 1 < l.length → gt 0 l (j + 1) ≠ gt 0 l j)) →
    (∀ t, t < n → (grp (l.drop (i + 1)))[t]? = some ⟨gt 0 l i + 1 + t, gt 0 l i + 1 + t, 1⟩) ∧ (grp (l.drop (i + 1))).drop n = grp (l.drop (i + 1 + n)) ∧ gt 0 l (i + n) = gt 0 l i + n
  | 0, _, _ => ⟨fun t h => absurd h (Nat.not_lt_zero _), rfl, by simp⟩
  | n + 1, h1, h2 => by
    obtain ⟨k1, k2, k3⟩ := grp_chain n (by omega) (fun j a b => h2 j a (by omega))
    obtain ⟨k4, k5⟩ := h2 (i + 1 + n) (by omega) (by omega)
    have e := grp_one (l := l) (i := i + 1 + n) (by omega) (fun h => k5 h)
    have e2 : gt 0 l (i + 1 + n) = gt 0 l i + 1 + n := by
      rw [k4, show i + 1 + n - 1 = i + n by omega, k3]
      omega
    rw [e] at k2
    refine ⟨fun t ht => ?_, ?_, ?_⟩
    · rcases Nat.lt_succ_iff_lt_or_eq.1 ht with h | rfl
      · exact k1 t h
      · have := congrArg (fun x : List Itm => x[0]?) k2
        simp only [List.getElem?_drop, Nat.add_zero, List.getElem?_cons_zero] at this
        rw [this, e2]
    · have := congrArg (List.drop 1) k2
      rw [List.drop_drop] at this
      rw [show n + 1 = n + 1 from rfl, this]
      show grp (l.drop (i + 1 + n + 1)) = _
      congr 2
    · rw [show i + (n + 1) = i + 1 + n by omega, e2]
      push_cast
      omega
theorem grp_stop {l : List Int} {e : Nat} {c : Int} (h : ¬ (e < l.length ∧ gt 0 l e = c ∧ (e + 1 = l.length ∨ gt 0 l (e + 1) ≠ gt 0 l e))) (he : e ≤ l.length) : (grp (l.drop e))[0]? ≠ some ⟨c, c, 1⟩ := by
  intro h2
  rcases Nat.lt_or_ge e l.length with hl | hl
  · obtain ⟨k, R, h3, h4, h5⟩ := glue_head (l.drop (e + 1)) (gt 0 l e) 1
    rw [drop_gt 0 l e hl, grp_cons, h3] at h2
    simp only [List.getElem?_cons_zero, Option.some.injEq, Itm.mk.injEq] at h2
    refine h ⟨hl, h2.1, ?_⟩
    by_cases h6 : e + 1 = l.length
    · exact .inl h6
    · refine .inr fun h7 => ?_
      have := h5 (by rw [drop0, at_gt (by omega), h7])
      omega
  · rw [List.drop_eq_nil_of_le hl] at h2
    cases h2
theorem run_len {l : List Int} {i e : Nat} (h1 : i + 1 ≤ e) (he : e ≤ l.length) (hc : ∀ j, i < j → j < e → gt 0 l j = gt 0 l (j - 1) + 1 ∧ (j + 1 < l.length → gt 0 l (j + 1) ≠ gt 0 l j)) (hx : ¬ (e < l.length ∧ gt 0 l e = gt 0 l (e - 1) + 1 ∧ (e + 1 = l.length ∨ gt 0 l (e + 1) ≠ gt 0 l e))) :
    runL (gt 0 l i) (grp (l.drop (i + 1))) = e - (i + 1) ∧ (grp (l.drop (i + 1))).drop (e - (i + 1)) = grp (l.drop e) ∧ gt 0 l (e - 1) = gt 0 l i + ((e - (i + 1) : Nat) : Int) := by
  obtain ⟨n, rfl⟩ : ∃ n, e = i + 1 + n := ⟨e - (i + 1), by omega⟩
  obtain ⟨k1, k2, k3⟩ := grp_chain n he hc
  rw [show i + 1 + n - (i + 1) = n by omega]
  refine ⟨runL_char _ _ _ k1 fun h => ?_, k2, by rw [show i + 1 + n - 1 = i + n by omega, k3]⟩
  have h2 := congrArg (fun x : List Itm => x[0]?) k2
  simp only [List.getElem?_drop, Nat.add_zero] at h2
  rw [h2] at h
  refine grp_stop (c := gt 0 l i + 1 + n) ?_ he h
  rw [show i + 1 + n - 1 = i + n by omega, k3, show gt 0 l i + (n : Int) + 1 = gt 0 l i + 1 + n by omega] at hx
  exact hx
theorem run_c {l : List Int} {e : Nat} (h : ((decide (((e : Nat) : Int) < (l.length : Int)) && decide (gt 0 l e = gt 0 l (e - 1) + 1)) && (decide (((e + 1 : Nat) : Int) = (l.length : Int)) || !decide (gt 0 l (e + 1) = gt 0 l e))) = true) : e < l.length ∧ gt 0 l e = gt 0 l (e - 1) + 1 ∧ (e + 1 = l.length ∨ gt 0 l (e + 1) ≠ gt 0 l e) := by
  simp only [Bool.and_eq_true, Bool.or_eq_true, Bool.not_eq_true', decide_eq_true_eq, decide_eq_false_iff_not] at h
  obtain ⟨⟨h1, h2⟩, h3⟩ := h
  refine ⟨by omega, h2, ?_⟩
  rcases h3 with h3 | h3
  · exact .inl (by omega)
  · exact .inr h3
theorem run_cn {l : List Int} {e : Nat} (h : ((decide (((e : Nat) : Int) < (l.length : Int)) && decide (gt 0 l e = gt 0 l (e - 1) + 1)) && (decide (((e + 1 : Nat) : Int) = (l.length : Int)) || !decide (gt 0 l (e + 1) = gt 0 l e))) = false) : ¬ (e < l.length ∧ gt 0 l e = gt 0 l (e - 1) + 1 ∧ (e + 1 = l.length ∨ gt 0 l (e + 1) ≠ gt 0 l e)) := by
  rintro ⟨h1, h2, h3⟩
  rw [decide_eq_true (show ((e : Nat) : Int) < (l.length : Int) by omega), decide_eq_true h2] at h
  rcases h3 with h3 | h3
  · rw [decide_eq_true (show ((e + 1 : Nat) : Int) = (l.length : Int) by omega)] at h; cases h
  · rw [decide_eq_false h3, Bool.not_false, Bool.or_true] at h; cases h
/-! ### Items, from a place on -/
theorem itms_end {l : List Int} {i : Nat} (h : i = l.length) : itmsT (l.drop i) = [] := by
  rw [h, List.drop_length]
  unfold itmsT
  rw [show grp [] = [] from rfl, itm]
  rfl
theorem itms_same {l : List Int} {i g : Nat} (hg : i + 1 < g) (hl : g ≤ l.length) (hs : ∀ j, i ≤ j → j < g → gt 0 l j = gt 0 l i) (he : g < l.length → gt 0 l g ≠ gt 0 l i) : itmsT (l.drop i) = [32] ++ Lib.itoa (gt 0 l i) ++ [120] ++ Lib.itoa ((g - i : Nat) : Int) ++ itmsT (l.drop g) := by
  unfold itmsT
  rw [grp_same (by omega) hl hs he, itm_eq, if_neg (by unfold runK; rw [if_neg (by show ¬ g - i = 1; omega)]; decide), List.flatMap_cons]
  unfold itmT
  dsimp only
  rw [if_pos (by omega)]
  simp only [List.append_assoc]
theorem itms_run {l : List Int} {i e : Nat} (hi : i < l.length) (h0 : i + 1 < l.length → gt 0 l (i + 1) ≠ gt 0 l i) (h1 : i + 3 ≤ e) (he : e ≤ l.length) (hc : ∀ j, i < j → j < e → gt 0 l j = gt 0 l (j - 1) + 1 ∧ (j + 1 < l.length → gt 0 l (j + 1) ≠ gt 0 l j)) (hx : ¬ (e < l.length ∧ gt 0 l e = gt 0 l (e - 1) + 1 ∧ (e + 1 = l.length ∨ gt 0 l (e + 1) ≠ gt 0 l e))) :
    itmsT (l.drop i) = [32] ++ Lib.itoa (gt 0 l i) ++ [45] ++ Lib.itoa (gt 0 l (e - 1)) ++ itmsT (l.drop e) := by
  obtain ⟨k1, k2, k3⟩ := run_len (by omega) he hc hx
  unfold itmsT
  have hk : runK ⟨gt 0 l i, gt 0 l i, 1⟩ (grp (l.drop (i + 1))) = e - (i + 1) := by
    unfold runK
    rw [if_pos rfl, k1]
  rw [grp_one hi h0, itm_eq, hk, if_pos (by omega), k2, List.flatMap_cons]
  dsimp only
  rw [← k3]
  unfold itmT
  dsimp only
  rw [if_neg (by decide), if_pos (by rw [k3]; omega)]
  simp only [List.append_assoc]
theorem itms_one {l : List Int} {i e : Nat} (hi : i < l.length) (h0 : i + 1 < l.length → gt 0 l (i + 1) ≠ gt 0 l i) (h1 : i + 1 ≤ e) (h3 : e < i + 3) (he : e ≤ l.length) (hc : ∀ j, i < j → j < e → gt 0 l j = gt 0 l (j - 1) + 1 ∧ (j + 1 < l.length → gt 0 l (j + 1) ≠ gt 0 l j)) (hx : ¬ (e < l.length ∧ gt 0 l e = gt 0 l (e - 1) + 1 ∧ (e + 1 = l.length ∨ gt 0 l (e + 1) ≠ gt 0 l e))) :
    itmsT (l.drop i) = [32] ++ Lib.itoa (gt 0 l i) ++ itmsT (l.drop (i + 1)) := by
  obtain ⟨k1, k2, k3⟩ := run_len h1 he hc hx
  unfold itmsT
  have hk : runK ⟨gt 0 l i, gt 0 l i, 1⟩ (grp (l.drop (i + 1))) = e - (i + 1) := by
    unfold runK
    rw [if_pos rfl, k1]
  rw [grp_one hi h0, itm_eq, hk, if_neg (by omega), List.flatMap_cons]
  unfold itmT
  dsimp only
  rw [if_neg (by decide), if_neg (by omega), List.append_nil]
theorem itms_len {l : List Int} (hl : l.length ≤ 48) (hc : ∀ c ∈ l, 0 ≤ c ∧ c ≤ 99) (i : Nat) : (itmsT (l.drop i)).length ≤ 1344 := by
  have h1 : ∀ c ∈ l.drop i, 0 ≤ c ∧ c ≤ 99 := fun c h => hc c (List.mem_of_mem_drop h)
  have h2 : (l.drop i).length ≤ 48 := by rw [List.length_drop]; omega
  obtain ⟨k1, k2⟩ := itms_ok h1 (by omega)
  have := Go.Proofs.YtplofbjppcbchaaDoor.flat_len itmT 28 (itm (grp (l.drop i))) fun x hx => by
    obtain ⟨a, b, c, d, e⟩ := k2 x hx
    exact itmT_len a b c (by omega) (by omega)
  unfold itmsT
  omega
end Go.Proofs.YtplofbjppcbchaaDoor
end

section
set_option linter.unusedVariables false
set_option linter.unusedSimpArgs false
namespace Go.Proofs.YtplofbjppcbchaaDoor
open Go Go.AF
/-! ### What is valid, in the reference's words -/
theorem last_ge {α : Type} {num : α → Int} {d : α} {l : List α} {i : Nat} : (0 < i → num (gt d l (i - 1)) = lastR num d l i) ∧ (i = 0 → lastR num d l i = -1) := by
  cases i with
  | zero => exact ⟨fun h => absurd h (by decide), fun _ => rfl⟩
  | succ i => exact ⟨fun _ => rfl, fun h => by cases h⟩
theorem ris_c {i : Nat} {n p last : Int} (h1 : 0 < i → p = last) (h2 : i = 0 → last = -1) (h3 : -1 ≤ last) : (!inB n 0 1000000 || (decide ((i : Int) > 0) && decide (n ≤ p))) = !inB n (last + 1) 1000000 := by
  unfold inB
  by_cases a : i = 0
  · subst a
    rw [h2 rfl, decide_eq_false (show ¬ ((0 : Nat) : Int) > 0 by decide)]
    simp
  · have e := h1 (by omega)
    subst e
    rw [decide_eq_true (show ((i : Nat) : Int) > 0 by omega), Bool.true_and]
    by_cases b : n ≤ p
    · rw [decide_eq_true b, decide_eq_false (show ¬ p + 1 ≤ n by omega)]; simp
    · rw [decide_eq_false b, decide_eq_true (show p + 1 ≤ n by omega), decide_eq_true (show 0 ≤ n by omega)]
      simp
theorem lastC_ge {cs : List Int} {k : Nat} : (0 < k → gt 0 cs (k - 1) = lastC cs k) ∧ (k = 0 → lastC cs k = 0) := by
  cases k with
  | zero => exact ⟨fun h => absurd h (by decide), fun _ => rfl⟩
  | succ k => exact ⟨fun _ => rfl, fun h => by cases h⟩
theorem col_c {k : Nat} {c p last : Int} (h1 : 0 < k → p = last) (h2 : k = 0 → last = 0) (h3 : 0 ≤ last) : (!inB c 0 99 || (decide ((k : Int) > 0) && decide (c < p))) = !inB c last 99 := by
  unfold inB
  by_cases a : k = 0
  · subst a
    rw [h2 rfl, decide_eq_false (show ¬ ((0 : Nat) : Int) > 0 by decide)]
    simp
  · have e := h1 (by omega)
    subst e
    rw [decide_eq_true (show ((k : Nat) : Int) > 0 by omega), Bool.true_and]
    by_cases b : c < p
    · rw [decide_eq_true b, decide_eq_false (show ¬ p ≤ c by omega)]; simp
    · rw [decide_eq_false b, decide_eq_true (show p ≤ c by omega), decide_eq_true (show 0 ≤ c by omega)]
      simp
theorem pk_c1 {l : List Pck} {i : Nat} (hk : i < l.length) {p last : Int} (hr : (!inB (gt Pck.d l i).box 0 1000000 || (decide ((i : Int) > 0) && decide ((gt Pck.d l i).box ≤ p))) = !inB (gt Pck.d l i).box (last + 1) 1000000)
    (h : ((!inB (gt Pck.d l i).box 0 1000000 || (decide ((i : Int) > 0) && decide ((gt Pck.d l i).box ≤ p))) || !inB (((gt Pck.d l i).colours.length : Nat) : Int) 1 48) = true) : riseB Pck.box pckB last (l.drop i) = false := by
  rw [rise_step Pck.box pckB last Pck.d l i hk]
  rw [hr] at h
  cases h1 : inB (gt Pck.d l i).box (last + 1) 1000000 with
  | false => rfl
  | true =>
    rw [h1] at h
    cases h2 : inB (((gt Pck.d l i).colours.length : Nat) : Int) 1 48 with
    | false =>
      have : pckB (gt Pck.d l i) = false := by unfold pckB; rw [h2, Bool.and_false]
      rw [this]; rfl
    | true => rw [h2] at h; cases h
theorem pk_c1n {x : Pck} {i : Nat} {p last : Int} (hr : (!inB x.box 0 1000000 || (decide ((i : Int) > 0) && decide (x.box ≤ p))) = !inB x.box (last + 1) 1000000)
    (h : ((!inB x.box 0 1000000 || (decide ((i : Int) > 0) && decide (x.box ≤ p))) || !inB ((x.colours.length : Nat) : Int) 1 48) = false) : inB x.box (last + 1) 1000000 = true ∧ inB ((x.colours.length : Nat) : Int) 1 48 = true := by
  rw [hr] at h
  simp only [Bool.or_eq_false_iff, Bool.not_eq_false'] at h
  exact h
theorem b10 {b : UInt8} (h : decide (((b.toNat : Nat) : Int) = 10) = true) : b = 10 := by
  have h := of_decide_eq_true h
  exact UInt8.toNat_inj.1 (show b.toNat = 10 by omega)
theorem b10n {b : UInt8} (h : decide (((b.toNat : Nat) : Int) = 10) = false) : b ≠ 10 := fun e => by
  subst e
  exact absurd rfl (of_decide_eq_false h)
theorem wrP_3 {l : List Pck} (h : 30 < l.length) : wrP l = ([], 3) := by
  have e : chkN l.length 30 (pcksB l) = 3 := by unfold chkN; rw [if_pos (by omega)]
  rw [wrP_no (by rw [e]; decide), e]
theorem wrP_1 {l : List Pck} (h : l.length ≤ 30) (h2 : pcksB l = false) : wrP l = ([], 1) := by
  have e : chkN l.length 30 (pcksB l) = 1 := by unfold chkN; rw [if_neg (by omega), h2]; rfl
  rw [wrP_no (by rw [e]; decide), e]
theorem wp_step (l : List Pck) (i : Nat) (h : i < l.length) : (l.take i).flatMap pckT ++ Lib.itoa (gt Pck.d l i).box ++ [58] ++ itmsT ((gt Pck.d l i).colours.drop 0) ++ [10] = (l.take (i + 1)).flatMap pckT := by
  rw [← gt_step Pck.d pckT l i h]
  simp only [pckT, List.append_assoc, List.drop_zero]
/-! ### Lines -/
def lnC (s : Bs) : List PV := [.str (sB s)]
def lnsV (l : List Bs) : PV := .is (l.flatMap lnC) l.length
def lnsG : Bs → Bs → List Bs
  | _, [] => []
  | cur, b :: s => if b = 10 then cur :: lnsG [] s else lnsG (cur ++ [b]) s
def lnsF : Nat → Nat → Bs → Nat
  | f, _, [] => f
  | f, i, b :: s => if b = 10 then lnsF (i + 1) (i + 1) s else lnsF f (i + 1) s
theorem lns_yes {s : Bs} {i f : Nat} {out : List Bs} (hi : i < s.length) (hf : f ≤ i) (hb : gt 0 s i = 10) (h : lnsG [] s = out ++ lnsG ((s.drop f).take (i - f)) (s.drop i)) (h2 : lnsF 0 0 s = lnsF f i (s.drop i)) : lnsG [] s = (out ++ [(s.drop f).take (i - f)]) ++ lnsG ((s.drop (i + 1)).take (i + 1 - (i + 1))) (s.drop (i + 1)) ∧ lnsF 0 0 s = lnsF (i + 1) (i + 1) (s.drop (i + 1)) := by
  rw [drop_gt 0 s i hi, lnsG, if_pos hb] at h
  rw [drop_gt 0 s i hi, lnsF, if_pos hb] at h2
  refine ⟨?_, h2⟩
  rw [h, Nat.sub_self, List.take_zero, List.append_assoc]
  rfl
theorem lns_no {s : Bs} {i f : Nat} {out : List Bs} (hi : i < s.length) (hf : f ≤ i) (hb : gt 0 s i ≠ 10) (h : lnsG [] s = out ++ lnsG ((s.drop f).take (i - f)) (s.drop i)) (h2 : lnsF 0 0 s = lnsF f i (s.drop i)) : lnsG [] s = out ++ lnsG ((s.drop f).take (i + 1 - f)) (s.drop (i + 1)) ∧ lnsF 0 0 s = lnsF f (i + 1) (s.drop (i + 1)) := by
  rw [drop_gt 0 s i hi, lnsG, if_neg hb] at h
  rw [drop_gt 0 s i hi, lnsF, if_neg hb] at h2
  refine ⟨?_, h2⟩
  rw [h, show i + 1 - f = i - f + 1 by omega, List.take_succ_eq_append_getElem (by rw [List.length_drop]; omega)]
  congr 3
  rw [List.getElem_drop]
  simp only [show f + (i - f) = i by omega]
  rw [gt_get 0 i hi]
theorem lns_end {s : Bs} {f : Nat} {out : List Bs} (h : lnsG [] s = out ++ lnsG ((s.drop f).take (s.length - f)) (s.drop s.length)) (h2 : lnsF 0 0 s = lnsF f s.length (s.drop s.length)) : lnsG [] s = out ∧ lnsF 0 0 s = f := by
  rw [List.drop_length] at h h2
  rw [lnsG, List.append_nil] at h
  rw [lnsF] at h2
  exact ⟨h, h2⟩
theorem lnsG_run : ∀ (a cur s : Bs), (∀ b ∈ a, b ≠ 10) → lnsG cur (a ++ 10 :: s) = (cur ++ a) :: lnsG [] s
  | [], cur, s, _ => by rw [List.nil_append, lnsG, if_pos rfl, List.append_nil]
  | b :: a, cur, s, h => by
    rw [List.cons_append, lnsG, if_neg (h b (by simp)), lnsG_run a (cur ++ [b]) s fun x hx => h x (by simp [hx]), List.append_assoc]
    rfl
theorem lns_map {α : Type} (f : α → Bs) : ∀ (l : List α), (∀ x ∈ l, ∀ b ∈ f x, b ≠ 10) → lnsG [] (l.flatMap fun x => f x ++ [10]) = l.map f
  | [], _ => rfl
  | x :: l, h => by
    rw [List.flatMap_cons, List.append_assoc, show ([10] : Bs) ++ (l.flatMap fun x => f x ++ [10]) = 10 :: (l.flatMap fun x => f x ++ [10]) from rfl, lnsG_run _ _ _ (h x (by simp)), List.nil_append, lns_map f l fun y hy => h y (by simp [hy])]
    rfl
theorem lns_len : ∀ (s cur : Bs), (lnsG cur s).length ≤ s.length
  | [], cur => Nat.le_refl _
  | b :: s, cur => by
    rw [lnsG]
    split
    · have := lns_len s []; simp; omega
    · have := lns_len s (cur ++ [b]); simp; omega
/-! ### What a line of packs seems to say -/
def spT (a m j : Nat) : List Int := (List.range j).flatMap fun (t : Nat) => List.replicate m ((a : Int) + (t : Int))
theorem spT_succ (a m j : Nat) : spT a m (j + 1) = spT a m j ++ List.replicate m ((a : Int) + (j : Int)) := by
  unfold spT
  rw [List.range_succ, List.flatMap_append]
  simp
def xP (q : Bs) : Nat × Bs := if preB [120] q then ((figP (q.drop 1)).1, (q.drop 1).drop (figP (q.drop 1)).2) else (1, q)
def tP (a : Nat) (q : Bs) : Nat × Bs := if preB [45] q then ((figP (q.drop 1)).1, (q.drop 1).drop (figP (q.drop 1)).2) else (a, q)
theorem xP_yes {q : Bs} (h : preB [120] q = true) : xP q = ((figP (q.drop 1)).1, (q.drop 1).drop (figP (q.drop 1)).2) := by unfold xP; rw [if_pos h]
theorem xP_no {q : Bs} (h : preB [120] q = false) : xP q = (1, q) := by unfold xP; rw [if_neg (by rw [h]; decide)]
theorem tP_yes {a : Nat} {q : Bs} (h : preB [45] q = true) : tP a q = ((figP (q.drop 1)).1, (q.drop 1).drop (figP (q.drop 1)).2) := by unfold tP; rw [if_pos h]
theorem tP_no {a : Nat} {q : Bs} (h : preB [45] q = false) : tP a q = (a, q) := by unfold tP; rw [if_neg (by rw [h]; decide)]
/-- One item: its first number, how many, its last one, what is left. -/
def itP (q1 : Bs) : List Int × Bs :=
  let a := (figP q1).1
  let x := xP (q1.drop (figP q1).2)
  let t := tP a x.2
  (spT a x.1 (t.1 + 1 - a), t.2)
def pkL : Nat → List Int → Bs → List Int
  | 0, acc, _ => acc
  | n + 1, acc, q => if acc.length ≤ 48 ∧ preB [32] q = true ∧ (figP (q.drop 1)).2 ≠ 0 then pkL n ((acc ++ (itP (q.drop 1)).1).take 49) (itP (q.drop 1)).2 else acc
def pkP (acc : List Int) (q : Bs) : List Int := pkL (q.length + 1) acc q
theorem xP_len (q : Bs) : (xP q).2.length ≤ q.length := by
  unfold xP
  split
  · simp only [List.length_drop]; omega
  · exact Nat.le_refl _
theorem tP_len (a : Nat) (q : Bs) : (tP a q).2.length ≤ q.length := by
  unfold tP
  split
  · simp only [List.length_drop]; omega
  · exact Nat.le_refl _
theorem itP_len (q : Bs) : (itP q).2.length ≤ q.length := by
  unfold itP
  dsimp only
  have h1 := tP_len (figP q).1 (xP (q.drop (figP q).2)).2
  have h2 := xP_len (q.drop (figP q).2)
  rw [List.length_drop] at h2
  omega
theorem pre_len {c : UInt8} {q : Bs} (h : preB [c] q = true) : 1 ≤ q.length := (preB_iff.1 h).2
theorem pkL_ext : ∀ (n m : Nat) (acc : List Int) (q : Bs), q.length < n → q.length < m → pkL n acc q = pkL m acc q
  | 0, _, _, _, h, _ => absurd h (Nat.not_lt_zero _)
  | _, 0, _, _, _, h => absurd h (Nat.not_lt_zero _)
  | n + 1, m + 1, acc, q, h1, h2 => by
    rw [pkL, pkL]
    split
    · rename_i h
      have a := pre_len h.2.1
      have b := itP_len (q.drop 1)
      rw [List.length_drop] at b
      exact pkL_ext n m _ _ (by omega) (by omega)
    · rfl
theorem pkP_step {acc : List Int} {q : Bs} (h1 : acc.length ≤ 48) (h2 : preB [32] q = true) (h3 : (figP (q.drop 1)).2 ≠ 0) : pkP acc q = pkP ((acc ++ (itP (q.drop 1)).1).take 49) (itP (q.drop 1)).2 := by
  have a := pre_len h2
  have b := itP_len (q.drop 1)
  rw [List.length_drop] at b
  unfold pkP
  rw [pkL, if_pos ⟨h1, h2, h3⟩]
  exact pkL_ext _ _ _ _ (by omega) (by omega)
theorem pkP_stop {acc : List Int} {q : Bs} (h : ¬ (acc.length ≤ 48 ∧ preB [32] q = true ∧ (figP (q.drop 1)).2 ≠ 0)) : pkP acc q = acc := by
  unfold pkP
  rw [pkL, if_neg h]
def pkFin (b : Bool) (acc : List Int) (q : Bs) : List Int := if b then pkP acc q else acc
def packOfP (s : Bs) : Pck := ⟨((figP s).1 : Nat), pkFin (preB [58] (s.drop (figP s).2)) [] (if preB [58] (s.drop (figP s).2) then (s.drop (figP s).2).drop 1 else [])⟩
theorem pk_stop {b : Bool} {acc : List Int} {q : Bs} (h : (b && decide ((acc.length : Int) ≤ 48)) = false) : pkFin b acc q = acc := by
  unfold pkFin
  split
  · rename_i hb
    rw [hb, Bool.true_and] at h
    have h := of_decide_eq_false h
    exact pkP_stop fun e => h (by omega)
  · rfl
theorem pkL_le : ∀ (n : Nat) (acc : List Int) (q : Bs), acc.length ≤ 49 → (pkL n acc q).length ≤ 49
  | 0, _, _, h => h
  | n + 1, acc, q, h => by
    rw [pkL]
    split
    · exact pkL_le n _ _ (by rw [List.length_take]; omega)
    · exact h
theorem packOf_n (s : Bs) : (packOfP s).colours.length ≤ bigN := by
  unfold packOfP pkFin
  dsimp only
  split
  · exact Nat.le_trans (pkL_le _ _ _ (by decide)) (by decide)
  · decide
theorem take_49 {X Y : List Int} (h : 48 < (X.take 49).length) : (X ++ Y).take 49 = X.take 49 := by
  rw [List.length_take] at h
  exact List.take_append_of_le_length (by omega)
theorem rep_49 {X : List Int} {c : Int} {t m : Nat} (htm : t ≤ m) (h : 48 < ((X ++ List.replicate t c).take 49).length) : (X ++ List.replicate m c).take 49 = (X ++ List.replicate t c).take 49 := by
  rw [show m = t + (m - t) by omega, ← List.replicate_append_replicate, ← List.append_assoc]
  exact take_49 h
theorem spT_49 {X : List Int} {a m j n : Nat} (hj : j ≤ n) (h : 48 < ((X ++ spT a m j).take 49).length) : (X ++ spT a m n).take 49 = (X ++ spT a m j).take 49 := by
  obtain ⟨k, rfl⟩ : ∃ k, n = j + k := ⟨n - j, by omega⟩
  clear hj
  induction k with
  | zero => rfl
  | succ k ih =>
    rw [show j + (k + 1) = j + k + 1 by omega, spT_succ, ← List.append_assoc, take_49 (by rw [ih]; exact h), ih]
theorem take_all {X : List Int} (h : (X.take 49).length ≤ 48) : X.take 49 = X := by
  rw [List.length_take] at h
  exact List.take_of_length_le (by omega)
theorem xP_lt (q : Bs) : (xP q).1 < 1000000000 := by
  unfold xP
  split
  · exact fig_lt _
  · exact (by decide : (1 : Nat) < 1000000000)
theorem tP_lt (a : Nat) (q : Bs) (h : a < 1000000000) : (tP a q).1 < 1000000000 := by
  unfold tP
  split
  · exact fig_lt _
  · exact h
theorem rep_next {X : List Int} {c : Int} {t : Nat} (h : ((X ++ List.replicate t c).take 49).length ≤ 48) : (X ++ List.replicate (t + 1) c).take 49 = (X ++ List.replicate t c).take 49 ++ [c] := by
  rw [take_all h, List.replicate_succ', ← List.append_assoc]
  refine List.take_of_length_le ?_
  have h2 := h
  rw [take_all h] at h2
  rw [List.length_append]
  simp only [List.length_singleton]
  omega
theorem pk_in {b : Bool} {acc : List Int} (h : (b && decide ((acc.length : Int) ≤ 48)) = true) : b = true ∧ acc.length ≤ 48 := by
  simp only [Bool.and_eq_true, decide_eq_true_eq] at h
  exact ⟨h.1, by omega⟩
theorem pk_brk {q : Bs} {acc : List Int} (h : (!preB [32] q || decide ((((figP (if preB [32] q = true then q.drop 1 else [])).2 : Nat) : Int) = 0)) = true) : ¬ (acc.length ≤ 48 ∧ preB [32] q = true ∧ (figP (q.drop 1)).2 ≠ 0) := fun ⟨_, h2, h3⟩ => by
  rw [if_pos h2, h2, Bool.not_true, Bool.false_or] at h
  have h := of_decide_eq_true h
  omega
theorem pk_go {q : Bs} (h : (!preB [32] q || decide ((((figP (if preB [32] q = true then q.drop 1 else [])).2 : Nat) : Int) = 0)) = false) : preB [32] q = true ∧ (figP (q.drop 1)).2 ≠ 0 := by
  simp only [Bool.or_eq_false_iff, Bool.not_eq_false', decide_eq_false_iff_not] at h
  obtain ⟨h1, h2⟩ := h
  rw [if_pos h1] at h2
  exact ⟨h1, by omega⟩
theorem sp_go {X : List Int} {a l j : Nat} (h : (decide ((a : Int) + (j : Int) ≤ (l : Int)) && decide ((X.length : Int) ≤ 48)) = true) : j < l + 1 - a ∧ X.length ≤ 48 := by
  simp only [Bool.and_eq_true, decide_eq_true_eq] at h
  omega
theorem sp_end {X : List Int} {a m l j : Nat} (hj : j ≤ l + 1 - a) (h : (decide ((a : Int) + (j : Int) ≤ (l : Int)) && decide (((((X ++ spT a m j).take 49).length : Nat) : Int) ≤ 48)) = false) : (X ++ spT a m (l + 1 - a)).take 49 = (X ++ spT a m j).take 49 := by
  simp only [Bool.and_eq_false_iff, decide_eq_false_iff_not] at h
  rcases h with h | h
  · rw [show l + 1 - a = j by omega]
  · exact spT_49 hj (by omega)
theorem rp_go {X : List Int} {m t : Nat} (h : (decide (((t : Nat) : Int) < (m : Int)) && decide ((X.length : Int) ≤ 48)) = true) : t < m ∧ X.length ≤ 48 := by
  simp only [Bool.and_eq_true, decide_eq_true_eq] at h
  omega
theorem rp_end {X : List Int} {c : Int} {m t : Nat} (ht : t ≤ m) (h : (decide (((t : Nat) : Int) < (m : Int)) && decide (((((X ++ List.replicate t c).take 49).length : Nat) : Int) ≤ 48)) = false) : (X ++ List.replicate m c).take 49 = (X ++ List.replicate t c).take 49 := by
  simp only [Bool.and_eq_false_iff, decide_eq_false_iff_not] at h
  rcases h with h | h
  · rw [show m = t by omega]
  · exact rep_49 ht (by omega)
/-! ### A line as it is written -/
def sepE (T : Bs) : Prop := T = [] ∨ ∃ t, T = 32 :: t
theorem sepE_nd {T : Bs} (h : sepE T) : ndH T := by
  rcases h with rfl | ⟨t, rfl⟩
  · exact ndH_nil
  · exact ndH_cons rfl
theorem sepE_pre {T : Bs} {c : UInt8} (h : sepE T) (h1 : c ≠ 32) : preB [c] T = false := by
  rcases h with rfl | ⟨t, rfl⟩
  · rfl
  · exact pre_head h1
theorem zed_nd {x : Itm} {T : Bs} (hT : sepE T) : ndH (itmZ x ++ T) := by
  unfold itmZ
  split
  · exact ndH_app (c := 120) rfl
  · split
    · exact ndH_app (c := 45) rfl
    · exact sepE_nd hT
theorem itP_app {x : Itm} {T : Bs} (h : CanI x) (hT : sepE T) : itP (Lib.itoa x.fr ++ (itmZ x ++ T)) = (spT x.fr.toNat x.many (x.to.toNat + 1 - x.fr.toNat), T) ∧ (figP (Lib.itoa x.fr ++ (itmZ x ++ T))).2 ≠ 0 := by
  obtain ⟨h0, h1, h2, h3, h4, h5, h6⟩ := h
  have hf := fig_itoa (n := x.fr) h0 (by omega) (zed_nd (x := x) hT)
  refine ⟨?_, by rw [hf]; have := itoa_pos x.fr; dsimp only; omega⟩
  unfold itP
  dsimp only
  rw [hf]
  dsimp only
  rw [List.drop_left]
  by_cases hm : 1 < x.many
  · have ez : itmZ x = [120] ++ Lib.itoa (x.many : Int) := by unfold itmZ; rw [if_pos hm]
    rw [ez, List.append_assoc]
    have hx : xP ([120] ++ (Lib.itoa (x.many : Int) ++ T)) = (x.many, T) := by
      rw [xP_yes (pre_app _ _), show (([120] : Bs) ++ (Lib.itoa (x.many : Int) ++ T)).drop 1 = Lib.itoa (x.many : Int) ++ T from rfl, fig_itoa (by omega) (by omega) (sepE_nd hT), List.drop_left]
      rfl
    rw [hx, tP_no (sepE_pre hT (by decide)), h6 hm]
  · by_cases ht : x.fr < x.to
    · have ez : itmZ x = [45] ++ Lib.itoa x.to := by unfold itmZ; rw [if_neg hm, if_pos ht]
      rw [ez, List.append_assoc]
      have hx : xP ([45] ++ (Lib.itoa x.to ++ T)) = (1, [45] ++ (Lib.itoa x.to ++ T)) := xP_no (pre_head (by decide))
      have hy : tP x.fr.toNat ([45] ++ (Lib.itoa x.to ++ T)) = (x.to.toNat, T) := by
        rw [tP_yes (pre_app _ _), show (([45] : Bs) ++ (Lib.itoa x.to ++ T)).drop 1 = Lib.itoa x.to ++ T from rfl, fig_itoa (by omega) h3 (sepE_nd hT), List.drop_left]
      rw [hx, hy, show x.many = 1 by omega]
    · have ez : itmZ x = [] := by unfold itmZ; rw [if_neg hm, if_neg ht]
      rw [ez, List.nil_append, xP_no (sepE_pre hT (by decide)), tP_no (sepE_pre hT (by decide)), show x.many = 1 by omega, show x.to = x.fr by omega]
theorem sprd_spT {x : Itm} (h : CanI x) (h99 : x.to ≤ 99) : sprd x = spT x.fr.toNat x.many (x.to.toNat + 1 - x.fr.toNat) := by
  obtain ⟨h0, h1, h2, h3, h4, h5, h6⟩ := h
  unfold sprd sprT spT sprN
  rw [show (min x.to 99 - x.fr + 1).toNat = x.to.toNat + 1 - x.fr.toNat by omega, Nat.min_eq_left (by omega)]
  congr 1
  funext t
  rw [Int.toNat_of_nonneg h0]
theorem itmsE : ∀ (l : List Itm), sepE (l.flatMap itmT)
  | [] => .inl rfl
  | x :: l => .inr ⟨_, by rw [List.flatMap_cons, itmT_z]; rfl⟩
theorem pkP_app : ∀ (l : List Itm) (acc : List Int), (∀ x ∈ l, CanI x ∧ x.to ≤ 99) → (acc ++ l.flatMap sprd).length ≤ 48 → pkP acc (l.flatMap itmT) = acc ++ l.flatMap sprd
  | [], acc, _, _ => by
    rw [List.flatMap_nil, List.flatMap_nil, List.append_nil]
    exact pkP_stop fun e => by cases e.2.1
  | x :: l, acc, h, hl => by
    obtain ⟨hx, hx9⟩ := h x (by simp)
    obtain ⟨k1, k2⟩ := itP_app hx (itmsE l)
    have hacc : acc.length ≤ 48 := by rw [List.length_append] at hl; omega
    rw [List.flatMap_cons, itmT_z]
    have e1 : (([32] : Bs) ++ (Lib.itoa x.fr ++ (itmZ x ++ l.flatMap itmT))).drop 1 = Lib.itoa x.fr ++ (itmZ x ++ l.flatMap itmT) := rfl
    rw [pkP_step hacc (pre_app _ _) (by rw [e1]; exact k2), e1, k1]
    dsimp only
    rw [← sprd_spT hx hx9]
    have hlen : (acc ++ sprd x).length ≤ 48 := by
      rw [List.flatMap_cons] at hl
      simp only [List.length_append] at hl ⊢
      omega
    rw [List.take_of_length_le (by omega), pkP_app l (acc ++ sprd x) (fun y hy => h y (by simp [hy])) (by rw [List.append_assoc, ← List.flatMap_cons]; exact hl), List.append_assoc, ← List.flatMap_cons]
theorem itm_99 : ∀ (n : Nat) (G : List Itm), G.length ≤ n → (∀ x ∈ G, ItmOk 48 x) → ∀ y ∈ itm G, y.to ≤ 99
  | n, [], _, _, y, hy => by rw [itm] at hy; cases hy
  | 0, x :: r, h, _, _, _ => by simp at h
  | n + 1, x :: r, h, hx, y, hy => by
    rw [itm_eq] at hy
    have hr := runK_le x r
    simp only [List.length_cons] at h
    split at hy
    · rename_i h2
      have hm : x.many = 1 := by
        rcases Decidable.em (x.many = 1) with e | e
        · exact e
        · unfold runK at h2; rw [if_neg e] at h2; omega
      have hk : runK x r = runL x.fr r := by unfold runK; rw [if_pos hm]
      rcases List.mem_cons.1 hy with rfl | hy
      · rw [hk] at h2 hr ⊢
        have h3 := runL_at r x.fr (runL x.fr r - 1) (by omega)
        have h4 := (hx _ (List.mem_cons_of_mem _ (List.mem_of_getElem? h3))).2.1
        simp only at h4
        show x.fr + (runL x.fr r : Int) ≤ 99
        omega
      · exact itm_99 n (r.drop (runK x r)) (by rw [List.length_drop]; omega) (fun z hz => hx z (by simp [List.mem_of_mem_drop hz])) y hy
    · rcases List.mem_cons.1 hy with rfl | hy
      · obtain ⟨a, b, c, d⟩ := hx _ (List.mem_cons_self)
        omega
      · exact itm_99 n r (by omega) (fun z hz => hx z (by simp [hz])) y hy
/-- A pack's line. -/
def pckN (p : Pck) : Bs := Lib.itoa p.box ++ [58] ++ itmsT p.colours
theorem packOf_app {p : Pck} (h : PckR p) : packOfP (pckN p) = p := by
  obtain ⟨h0, h1, h2⟩ := h
  obtain ⟨e1, e2⟩ := pck_items h2
  obtain ⟨c1, c2, c3⟩ := pckB_some h2
  obtain ⟨k1, k2⟩ := grp_ok p.colours p.colours.length (Nat.le_refl _) c1
  rw [List.take_length] at k1 k2
  have k4 := itm_99 _ _ (Nat.le_refl _) (fun x hx => let ⟨a, b, c, d⟩ := k2 x hx; (⟨a, b, c, by omega⟩ : ItmOk 48 x))
  unfold packOfP pckN
  have hf := fig_itoa (n := p.box) (t := [58] ++ itmsT p.colours) h0 h1 (ndH_app rfl)
  rw [List.append_assoc, hf]
  dsimp only
  rw [List.drop_left, if_pos (pre_app _ _), show preB [58] (([58] : Bs) ++ itmsT p.colours) = true from pre_app _ _, show (([58] : Bs) ++ itmsT p.colours).drop 1 = itmsT p.colours from rfl]
  unfold pkFin
  rw [if_pos rfl]
  unfold itmsT
  rw [pkP_app _ [] (fun x hx => ⟨e2 x hx, k4 x hx⟩) (by rw [List.nil_append, e1]; exact c3), List.nil_append, e1, Int.toNat_of_nonneg h0]
theorem dec_ne10 (u : Nat) : ∀ b ∈ Lib.decDigits u, b ≠ 10 := fun b hb e => by
  have := dec_all u b hb
  rw [e] at this
  cases this
theorem itoa_ne10 {n : Int} (h : 0 ≤ n) : ∀ b ∈ Lib.itoa n, b ≠ 10 := by rw [itoa_nat h]; exact dec_ne10 _
theorem itmT_ne10 {x : Itm} (h : CanI x) : ∀ b ∈ itmT x, b ≠ 10 := by
  obtain ⟨h0, h1, h2, _⟩ := h
  intro b hb
  unfold itmT at hb
  rcases List.mem_append.1 hb with hb | hb
  · rcases List.mem_append.1 hb with hb | hb
    · rw [List.mem_singleton.1 hb]; decide
    · exact itoa_ne10 h0 b hb
  · split at hb
    · rcases List.mem_append.1 hb with hb | hb
      · rw [List.mem_singleton.1 hb]; decide
      · exact itoa_ne10 (by omega) b hb
    · split at hb
      · rcases List.mem_append.1 hb with hb | hb
        · rw [List.mem_singleton.1 hb]; decide
        · exact itoa_ne10 (by omega) b hb
      · cases hb
theorem pckN_ne10 {p : Pck} (h : PckR p) : ∀ b ∈ pckN p, b ≠ 10 := by
  obtain ⟨h0, h1, h2⟩ := h
  obtain ⟨e1, e2⟩ := pck_items h2
  intro b hb
  unfold pckN at hb
  rcases List.mem_append.1 hb with hb | hb
  · rcases List.mem_append.1 hb with hb | hb
    · exact itoa_ne10 h0 b hb
    · rw [List.mem_singleton.1 hb]; decide
  · unfold itmsT at hb
    obtain ⟨x, hx, hb⟩ := List.mem_flatMap.1 hb
    exact itmT_ne10 (e2 x hx) b hb
def refP (s : Bs) : List Pck := (lnsG [] s).map packOfP
theorem refP_back {l : List Pck} (h : pcksB l = true) : refP (pcksT l) = l := by
  have hR := pcks_R h
  unfold refP
  have e : pcksT l = l.flatMap fun x => pckN x ++ [10] := by
    unfold pcksT pckT pckN
    rfl
  rw [e, lns_map pckN l fun x hx => pckN_ne10 (hR x hx), List.map_map]
  conv => rhs; rw [← List.map_id l]
  exact List.map_congr_left fun x hx => packOf_app (hR x hx)
/-- What the reference answers is what the program answers. -/
theorem rdP_ref {s : Bs} (hs : s.length ≤ 65536) : rdP s = if (wrP (refP s)).2 = 0 ∧ (wrP (refP s)).1 = s then (pcksV (refP s), 0) else (.nilSlice, 8) := by
  obtain ⟨v, e, n, g, _, ⟨rfl, l, rfl, h1, h2, h3, h4⟩ | ⟨rfl, _, rfl⟩⟩ := rdP_forms hs
  · have e2 : refP s = l := by rw [h3]; exact refP_back h2
    rw [g, e2, h4, if_pos ⟨rfl, rfl⟩]
  · rw [g]
    split
    · rename_i h
      obtain ⟨k1, k2, k3, _, k5⟩ := wrP_ok h.1
      rw [← k3, h.2, g] at k5
      cases k5
    · rfl
theorem rdP_big {s : Bs} (hs : 65536 < s.length) : rdP s = (.nilSlice, 3) := by
  have e : opP s = (.nilSlice, 3) := opn_big hs
  rw [rdP_e (by rw [e]; decide), e]
theorem cut_all (l : Bs) (m : Nat) : (l.drop m).take (l.length - m) = l.drop m := List.take_of_length_le (by rw [List.length_drop]; exact Nat.le_refl _)
end Go.Proofs.YtplofbjppcbchaaDoor
end

section
set_option linter.unusedVariables false
set_option linter.unusedSimpArgs false
namespace Go.Proofs.YtplofbjppcbchaaDoor
open Go Go.AF
end Go.Proofs.YtplofbjppcbchaaDoor
end

section
set_option linter.unusedVariables false
set_option linter.unusedSimpArgs false
namespace Go.Proofs.YtplofbjppcbchaaDoor
open Go Go.AF
end Go.Proofs.YtplofbjppcbchaaDoor
end

section
set_option linter.unusedVariables false
set_option linter.unusedSimpArgs false
namespace Go.Proofs.YtplofbjppcbchaaDoor
open Go Go.AF
end Go.Proofs.YtplofbjppcbchaaDoor
end
