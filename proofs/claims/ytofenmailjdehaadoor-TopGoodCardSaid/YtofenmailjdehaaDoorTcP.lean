/-
  A crate in which one clamp can have spoilt a row, and the cards of its pencils. No program in sight.
-/
import Derived.Test.YtofenmailjdehaaDoorXrS
set_option linter.unusedVariables false
set_option linter.unusedSimpArgs false
namespace Go.Proofs.YtofenmailjdehaaDoor
open Go.AF
def topC (c : Crt) : Crt := { c with clamps := 1, dies := 0 }
def cN (c : Crt) : Nat := c.cols.toNat
def cardF (c : Crt) (j : Nat) : Bat := if j < c.rows.length then ⟨0, 0⟩ else ⟨((2 ^ ((j - c.rows.length) / cN c) : Nat) : Int), nt c.rows ((j - c.rows.length) / cN c)⟩
def cardsL (c : Crt) (m : Nat) : List Bat := (List.range m).map (cardF c)
theorem cards_len (c : Crt) (m : Nat) : (cardsL c m).length = m := by unfold cardsL; simp
theorem cards_S (c : Crt) (m : Nat) : cardsL c (m + 1) = cardsL c m ++ [cardF c m] := by unfold cardsL; rw [List.range_succ, List.map_append]; rfl
theorem cards_0 (c : Crt) : cardsL c c.rows.length = List.replicate c.rows.length ⟨0, 0⟩ := by
  apply List.ext_getElem
  · rw [cards_len, List.length_replicate]
  · intro i h1 h2
    rw [cards_len] at h1
    unfold cardsL cardF
    simp [h1]
theorem card_at {c : Crt} {r k : Nat} (hk : k < cN c) : cardF c (c.rows.length + r * cN c + k) = ⟨((2 ^ r : Nat) : Int), nt c.rows r⟩ := by
  unfold cardF
  rw [if_neg (by omega), show c.rows.length + r * cN c + k - c.rows.length = r * cN c + k by omega]
  have : (r * cN c + k) / cN c = r := by
    rw [Nat.mul_comm, Nat.mul_add_div (by omega), Nat.div_eq_of_lt hk, Nat.add_zero]
  rw [this]
theorem bt_cards {c : Crt} {m j : Nat} (h : j < m) : bt (cardsL c m) j = cardF c j := by
  rw [← bt_get j (by rw [cards_len]; exact h)]
  unfold cardsL
  simp
/-- The place of a look. -/
def plN (c : Crt) (x : Lk) : Nat := c.rows.length + x.r.toNat * cN c + x.c.toNat
def seenF (c : Crt) (s : Int) (l : List Lk) : Nat → Nat
  | 0 => 0
  | k + 1 => if (lkt l k).s = s then seenF c s l k ||| 2 ^ plN c (lkt l k) else seenF c s l k
def totN (c : Crt) : Nat := c.rows.length + c.rows.length * cN c
def seenN (c : Crt) (s : Int) (l : List Lk) : Nat := seenF c s l l.length
theorem seenF_bit (c : Crt) (s : Int) (l : List Lk) (j : Nat) : ∀ k, k ≤ l.length → ((seenF c s l k).testBit j = true ↔ ∃ i, i < k ∧ (lkt l i).s = s ∧ plN c (lkt l i) = j)
  | 0, _ => by simp [seenF]
  | k + 1, hk => by
    have ih := seenF_bit c s l j k (by omega)
    rw [seenF]
    by_cases h : (lkt l k).s = s
    · rw [if_pos h, Nat.testBit_or, Bool.or_eq_true, ih, Nat.testBit_two_pow, decide_eq_true_eq]
      constructor
      · rintro (⟨i, h1, h2, h3⟩ | h1)
        · exact ⟨i, by omega, h2, h3⟩
        · exact ⟨k, by omega, h, h1⟩
      · rintro ⟨i, h1, h2, h3⟩
        by_cases hi : i = k
        · subst hi; exact .inr h3
        · exact .inl ⟨i, by omega, h2, h3⟩
    · rw [if_neg h, ih]
      constructor
      · rintro ⟨i, h1, h2, h3⟩; exact ⟨i, by omega, h2, h3⟩
      · rintro ⟨i, h1, h2, h3⟩
        by_cases hi : i = k
        · subst hi; exact absurd h2 h
        · exact ⟨i, by omega, h2, h3⟩
theorem seen_bit (c : Crt) (s : Int) (l : List Lk) (j : Nat) : (seenN c s l).testBit j = true ↔ ∃ x ∈ l, x.s = s ∧ plN c x = j := by
  unfold seenN
  rw [seenF_bit c s l j l.length (Nat.le_refl _)]
  constructor
  · rintro ⟨i, h1, h2, h3⟩; exact ⟨_, lkt_mem h1, h2, h3⟩
  · rintro ⟨x, hx, h2, h3⟩
    obtain ⟨i, hi, rfl⟩ := List.getElem_of_mem hx
    exact ⟨i, hi, by rw [← lkt_get i hi]; exact h2, by rw [← lkt_get i hi]; exact h3⟩
section
variable {c : Crt} {l : List Lk}
structure Fit (c : Crt) (l : List Lk) : Prop where
  cr : crB (topC c) = true
  lk : ∀ x ∈ l, wrB (topC c) x = false
  sz : totN c ≤ 24
theorem fit_c (h : Fit c l) : (1 ≤ c.rows.length ∧ c.rows.length ≤ 8) ∧ (1 ≤ cN c ∧ cN c ≤ 8 ∧ c.cols = ((cN c : Nat) : Int)) ∧ ∀ n ∈ c.rows, 1 ≤ n ∧ n ≤ 1000 := by
  obtain ⟨h1, h2, h3, _⟩ := crB_of h.cr
  have h1 : 1 ≤ c.rows.length ∧ c.rows.length ≤ 8 := h1
  have h2 : 1 ≤ c.cols ∧ c.cols ≤ 8 := h2
  unfold cN
  exact ⟨h1, by omega, h3⟩
theorem fit_l (h : Fit c l) {x : Lk} (hx : x ∈ l) : x.r.toNat < c.rows.length ∧ x.c.toNat < cN c ∧ 0 ≤ x.r ∧ 0 ≤ x.c ∧ 0 ≤ x.s ∧ x.s ≤ 2 := by
  obtain ⟨⟨h1, h2⟩, ⟨h3, h4⟩, h5, h6⟩ := wrB_of (h.lk x hx)
  have h2 : x.r < (c.rows.length : Int) := h2
  have h4 : x.c < c.cols := h4
  unfold cN
  omega
theorem row_lt {R C r k : Nat} (hr : r < R) (hk : k < C) : r * C + k < R * C := by
  have h1 : (r + 1) * C ≤ R * C := Nat.mul_le_mul_right _ hr
  rw [Nat.add_mul, Nat.one_mul] at h1
  omega
theorem pl_lt (h : Fit c l) {x : Lk} (hx : x ∈ l) : c.rows.length ≤ plN c x ∧ plN c x < totN c := by
  obtain ⟨h1, h2, _⟩ := fit_l h hx
  have := row_lt h1 h2
  unfold plN totN
  omega
theorem pl_row (h : Fit c l) {x : Lk} (hx : x ∈ l) : (plN c x - c.rows.length) / cN c = x.r.toNat := by
  obtain ⟨h1, h2, _⟩ := fit_l h hx
  unfold plN
  rw [show c.rows.length + x.r.toNat * cN c + x.c.toNat - c.rows.length = x.r.toNat * cN c + x.c.toNat by omega, Nat.mul_comm, Nat.mul_add_div (by omega), Nat.div_eq_of_lt h2, Nat.add_zero]
theorem seenF_lt (h : Fit c l) (s : Int) : ∀ k, k ≤ l.length → seenF c s l k < 2 ^ totN c := fun k hk => bit_lt fun j hj => by
  obtain ⟨i, h1, _, rfl⟩ := (seenF_bit c s l j k hk).1 hj
  exact (pl_lt h (lkt_mem (by omega))).2
/-! ### The cards are valid, and what each comes from -/
def crds (c : Crt) : List Bat := cardsL c (totN c)
theorem crds_len (c : Crt) : (crds c).length = totN c := cards_len c _
theorem place_row (h : Fit c l) {j : Nat} (h1 : c.rows.length ≤ j) (h2 : j < totN c) : (j - c.rows.length) / cN c < c.rows.length := by
  obtain ⟨_, ⟨hC, _⟩, _⟩ := fit_c h
  rw [Nat.div_lt_iff_lt_mul (by omega)]
  unfold totN at h2
  omega
theorem crds_ok (h : Fit c l) : crdOk (crds c) := by
  intro j hj
  rw [crds_len] at hj
  obtain ⟨⟨hR, _⟩, _, hn⟩ := fit_c h
  have hs := h.sz
  unfold crdO
  unfold crds
  rw [bt_cards hj]
  unfold cardF
  by_cases hjr : j < c.rows.length
  · rw [if_pos hjr]
    have := (pw_B (Nat.zero_le j)).2
    have h0 : pw 0 = 1 := rfl
    dsimp only
    omega
  · rw [if_neg hjr]
    have hr := place_row h (by omega) hj
    have h3 := hn _ (nt_mem hr)
    have h4 := Nat.pow_lt_pow_right (show 1 < 2 by omega) (show (j - c.rows.length) / cN c < j by omega)
    have h5 := Nat.two_pow_pos ((j - c.rows.length) / cN c)
    unfold pw
    dsimp only
    omega
theorem crds_fr (h : Fit c l) {j : Nat} (hj : j < totN c) (x : Nat) : (frN (crds c) j).testBit x = true ↔ c.rows.length ≤ j ∧ x = (j - c.rows.length) / cN c := by
  unfold frN crds
  rw [bt_cards hj]
  unfold cardF
  by_cases hjr : j < c.rows.length
  · rw [if_pos hjr]
    constructor
    · intro h; exact absurd h (by show ¬ (Nat.testBit 0 x = true); simp)
    · rintro ⟨h1, _⟩; omega
  · rw [if_neg hjr]
    show (2 ^ _ : Nat).testBit x = true ↔ _
    rw [Nat.testBit_two_pow, decide_eq_true_eq]
    omega
theorem crds_back (h : Fit c l) {j : Nat} (hj : j < totN c) (x : Nat) : (backN (crds c) j).testBit x = true ↔ x = j ∨ (c.rows.length ≤ j ∧ x = (j - c.rows.length) / cN c) := by
  have hb : ∀ y, y < c.rows.length → ∀ x, (backN (crds c) y).testBit x = true ↔ x = y := fun y hy x => by
    rw [back_iff]
    constructor
    · rintro (h1 | ⟨k, h1, h2, _⟩)
      · exact h1
      · have hy2 : y < totN c := by unfold totN; omega
        have := ((crds_fr h hy2 k).1 h2).1
        omega
    · exact .inl
  rw [back_iff]
  constructor
  · rintro (h1 | ⟨k, h1, h2, h3⟩)
    · exact .inl h1
    · obtain ⟨h4, h5⟩ := (crds_fr h hj k).1 h2
      have h6 := place_row h h4 hj
      rw [← h5] at h6
      rw [(hb k h6 x).1 h3]
      exact .inr ⟨h4, h5⟩
  · rintro (h1 | ⟨h1, h2⟩)
    · exact .inl h1
    · have h6 := place_row h h1 hj
      exact .inr ⟨x, by omega, (crds_fr h hj x).2 ⟨h1, h2⟩, by rw [hb x (by rw [h2]; exact h6)]⟩
/-- All that was seen bad is in a row, and nothing that was seen good. -/
def InRow (l : List Lk) (r : Nat) : Prop := (∀ x ∈ l, x.s = 1 → x.r.toNat = r) ∧ ∀ x ∈ l, x.s = 0 → x.r.toNat ≠ r
theorem back_look (h : Fit c l) {x : Lk} (hx : x ∈ l) {i : Nat} (hi : i < c.rows.length) : (backN (crds c) (plN c x)).testBit i = true ↔ x.r.toNat = i := by
  obtain ⟨h1, h2⟩ := pl_lt h hx
  rw [crds_back h h2, pl_row h hx]
  omega
theorem blame_row (h : Fit c l) {i : Nat} (hi : i < c.rows.length) : (blameN (crds c) (seenN c 1 l) (seenN c 0 l)).testBit i = true ↔ InRow l i := by
  rw [blame_iff, crds_len]
  have hit : i < totN c := by unfold totN; omega
  constructor
  · rintro ⟨_, h1, h2⟩
    refine ⟨fun x hx hs => ?_, fun x hx hs => ?_⟩
    · exact (back_look h hx hi).1 (h1 _ (pl_lt h hx).2 ((seen_bit c 1 l _).2 ⟨x, hx, hs, rfl⟩))
    · intro e
      have := h2 _ (pl_lt h hx).2 ((seen_bit c 0 l _).2 ⟨x, hx, hs, rfl⟩)
      rw [(back_look h hx hi).2 e] at this
      cases this
  · rintro ⟨h1, h2⟩
    refine ⟨hit, fun k hk hb => ?_, fun k hk hb => ?_⟩
    · obtain ⟨x, hx, hs, rfl⟩ := (seen_bit c 1 l k).1 hb
      exact (back_look h hx hi).2 (h1 x hx hs)
    · obtain ⟨x, hx, hs, rfl⟩ := (seen_bit c 0 l k).1 hb
      cases e : (backN (crds c) (plN c x)).testBit i with
      | false => rfl
      | true => exact absurd ((back_look h hx hi).1 e) (h2 x hx hs)
theorem blame_place (h : Fit c l) {i : Nat} (hi : c.rows.length ≤ i) (hb : (blameN (crds c) (seenN c 1 l) (seenN c 0 l)).testBit i = true) : ∀ j, (seenN c 1 l).testBit j = true → j = i := by
  intro j hj
  rw [blame_iff, crds_len] at hb
  obtain ⟨x, hx, hs, rfl⟩ := (seen_bit c 1 l j).1 hj
  obtain ⟨h3, h4⟩ := pl_lt h hx
  have := hb.2.1 _ h4 hj
  rw [crds_back h h4, pl_row h hx] at this
  have := (fit_l h hx).1
  omega
end
end Go.Proofs.YtofenmailjdehaaDoor
