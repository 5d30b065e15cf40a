/-
  What the statement about two cards that change places asks of chapter 11: all sets are changed with them. No program in sight.
-/
import Derived.Test.YtlalikkkobpfgaaDoorRcV
set_option linter.unusedVariables false
set_option linter.unusedSimpArgs false
namespace Go.Proofs.YtlalikkkobpfgaaDoor
open Go.AF
/-- The places of two neighbours, changed. -/
def sw (i x : Nat) : Nat := if x = i then i + 1 else if x = i + 1 then i else x
theorem sw_sw (i x : Nat) : sw i (sw i x) = x := by unfold sw; split <;> split <;> (try split) <;> omega
theorem sw_lt {i n x : Nat} (hi : i + 1 < n) : sw i x < n ↔ x < n := by unfold sw; split <;> (try split) <;> omega
theorem sw_inj {i x y : Nat} (h : sw i x = sw i y) : x = y := by rw [← sw_sw i x, h, sw_sw]
/-- A set whose two neighbours were changed. -/
def tsN (i s : Nat) : Nat := ((s ^^^ (s &&& (3 * 2 ^ i))) ||| ((s / 2 ^ (i + 1) &&& 1) * 2 ^ i)) ||| ((s / 2 ^ i &&& 1) * 2 ^ (i + 1))
theorem three_bit (i x : Nat) : (3 * 2 ^ i).testBit x = (decide (x = i) || decide (x = i + 1)) := by
  rw [Nat.mul_comm, Nat.testBit_two_pow_mul]
  by_cases h : i ≤ x
  · obtain ⟨d, rfl⟩ := Nat.le.dest h
    rw [Nat.add_sub_cancel_left]
    match d with
    | 0 => simp
    | 1 => rw [show Nat.testBit 3 1 = true by decide]; simp
    | d + 2 => simp [Nat.testBit_succ]
  · simp [h, show ¬ x = i by omega, show ¬ x = i + 1 by omega]
theorem one_bit (s i j x : Nat) : ((s / 2 ^ i &&& 1) * 2 ^ j).testBit x = (decide (x = j) && s.testBit i) := by
  rw [Nat.mul_comm, Nat.testBit_two_pow_mul]
  by_cases h : j ≤ x
  · obtain ⟨d, rfl⟩ := Nat.le.dest h
    rw [Nat.add_sub_cancel_left, Nat.testBit_and, Nat.testBit_div_two_pow]
    match d with
    | 0 => simp
    | d + 1 => simp [Nat.testBit_succ]
  · simp [h, show ¬ x = j by omega]
theorem ts_bit (i s x : Nat) : (tsN i s).testBit x = s.testBit (sw i x) := by
  unfold tsN
  rw [Nat.testBit_or, Nat.testBit_or, Nat.testBit_xor, Nat.testBit_and, three_bit, one_bit, one_bit]
  unfold sw
  by_cases h1 : x = i
  · subst h1; simp
  · by_cases h2 : x = i + 1
    · subst h2; simp
    · simp [h1, h2]
theorem ts_ts (i s : Nat) : tsN i (tsN i s) = s := Nat.eq_of_testBit_eq fun x => by rw [ts_bit, ts_bit, sw_sw]
theorem ts_lt {i n s : Nat} (hi : i + 1 < n) (h : s < 2 ^ n) : tsN i s < 2 ^ n := bit_lt fun x hx => by
  rw [ts_bit] at hx
  exact (sw_lt hi).1 (bit_of_lt h hx)
theorem ts_zero (i s : Nat) : tsN i s = 0 ↔ s = 0 := by
  rw [zero_iff, zero_iff]
  constructor
  · intro h x; have := h (sw i x); rwa [ts_bit, sw_sw] at this
  · intro h x; rw [ts_bit]; exact h _
theorem ts0 (i : Nat) : tsN i 0 = 0 := (ts_zero i 0).2 rfl
/-- What is no set stays as it is. -/
def tuI (n i : Nat) (s : Int) : Int := if s < 0 ∨ s ≥ pw n then s else ((tsN i s.toNat : Nat) : Int)
theorem tuI_nat {n s : Nat} (i : Nat) (h : s < 2 ^ n) : tuI n i (s : Int) = ((tsN i s : Nat) : Int) := by
  unfold tuI pw
  rw [if_neg (by omega), Int.toNat_natCast]
theorem tuI_inB {n i : Nat} (hi : i + 1 < n) (s : Int) : inB (tuI n i s) 0 (pw n - 1) = inB s 0 (pw n - 1) := by
  unfold tuI
  split
  · rfl
  · rename_i h
    have h1 : s.toNat < 2 ^ n := by unfold pw at h; omega
    have h2 := ts_lt hi h1
    unfold inB pw at *
    have e1 : decide (((tsN i s.toNat : Nat) : Int) ≤ ((2 ^ n : Nat) : Int) - 1) = true := decide_eq_true (by omega)
    have e2 : decide (s ≤ ((2 ^ n : Nat) : Int) - 1) = true := decide_eq_true (by omega)
    have e3 : decide (0 ≤ ((tsN i s.toNat : Nat) : Int)) = true := decide_eq_true (by omega)
    have e4 : decide (0 ≤ s) = true := decide_eq_true (by omega)
    rw [e1, e2, e3, e4]
/-! ### The cards, with two neighbours changed -/
def tcF (l : List Bat) (i g k : Nat) : Bat := if k = i then bt l (i + 1) else if k = i + 1 then bt l i else if i + 2 ≤ k ∧ k < g then ⟨tuI l.length i (bt l k).f, (bt l k).s⟩ else bt l k
/-- So many of the later ones were changed already. -/
def tcG (l : List Bat) (i g : Nat) : List Bat := (List.range l.length).map (tcF l i g)
def tcL (l : List Bat) (i : Nat) : List Bat := tcG l i l.length
theorem tcG_len (l : List Bat) (i g : Nat) : (tcG l i g).length = l.length := by unfold tcG; simp
theorem tcG_at (l : List Bat) (i g : Nat) {k : Nat} (h : k < l.length) : bt (tcG l i g) k = tcF l i g k := by
  unfold bt tcG
  rw [List.getD_eq_getElem?_getD, List.getElem?_map, List.getElem?_range h]; rfl
theorem tcG_0 (l : List Bat) {i : Nat} (hi : i + 1 < l.length) : (l.set i (bt l (i + 1))).set (i + 1) (bt l i) = tcG l i (i + 2) := by
  apply List.ext_getElem
  · rw [tcG_len]; simp
  · intro k h1 h2
    rw [tcG_len] at h2
    simp only [List.getElem_set, tcG, List.getElem_map, List.getElem_range, tcF]
    by_cases h3 : k = i + 1
    · subst h3; simp
    · by_cases h4 : k = i
      · subst h4; simp
      · rw [if_neg (by omega), if_neg (by omega), if_neg h4, if_neg h3, if_neg (by omega), bt_get k h2]
theorem tcG_succ (l : List Bat) {i g : Nat} (hg : i + 2 ≤ g) (hgl : g < l.length) : (tcG l i g).set g ⟨tuI l.length i (bt l g).f, (bt l g).s⟩ = tcG l i (g + 1) := by
  apply List.ext_getElem
  · rw [tcG_len, List.length_set, tcG_len]
  · intro k h1 h2
    rw [tcG_len] at h2
    simp only [List.getElem_set, tcG, List.getElem_map, List.getElem_range, tcF]
    by_cases h3 : g = k
    · subst h3; rw [if_pos rfl, if_neg (by omega), if_neg (by omega), if_pos (by omega)]
    · rw [if_neg h3]
      by_cases h4 : k = i
      · rw [if_pos h4, if_pos h4]
      · by_cases h5 : k = i + 1
        · rw [if_neg h4, if_pos h5, if_neg h4, if_pos h5]
        · by_cases h6 : i + 2 ≤ k ∧ k < g
          · rw [if_neg h4, if_neg h5, if_pos h6, if_neg h4, if_neg h5, if_pos (by omega)]
          · rw [if_neg h4, if_neg h5, if_neg h6, if_neg h4, if_neg h5, if_neg (by omega)]
theorem tc_s (l : List Bat) {i k : Nat} (hi : i + 1 < l.length) (hk : k < l.length) : (bt (tcL l i) (sw i k)).s = (bt l k).s := by
  unfold tcL
  rw [tcG_at l i _ ((sw_lt hi).2 hk)]
  unfold tcF sw
  by_cases h1 : k = i
  · subst h1; simp
  · by_cases h2 : k = i + 1
    · subst h2; simp
    · rw [if_neg h1, if_neg h2, if_neg h1, if_neg h2]
      split <;> rfl
theorem tc_fr {l : List Bat} (hC : crdOk l) {i : Nat} (hi : i + 1 < l.length) (hb : (frN l (i + 1)).testBit i = false) {k : Nat} (hk : k < l.length) (x : Nat) : (frN (tcL l i) (sw i k)).testBit (sw i x) = (frN l k).testBit x := by
  have hlt := fun x => fr_lt hC hk (k := x)
  have e : frN (tcL l i) (sw i k) = (tcF l i l.length (sw i k)).f.toNat := by unfold frN tcL; rw [tcG_at l i _ ((sw_lt hi).2 hk)]
  rw [e]
  have stay : ∀ m, m ≤ i → (∀ x, (frN l k).testBit x = true → x < m) → (frN l k).testBit (sw i x) = (frN l k).testBit x := by
    intro m hm h
    unfold sw
    by_cases h1 : x = i
    · rw [if_pos h1]
      have a1 : (frN l k).testBit (i + 1) = false := by cases h2 : (frN l k).testBit (i + 1) with | false => rfl | true => have := h _ h2; omega
      have a2 : (frN l k).testBit x = false := by cases h2 : (frN l k).testBit x with | false => rfl | true => have := h _ h2; omega
      rw [a1, a2]
    · by_cases h2 : x = i + 1
      · rw [if_neg h1, if_pos h2]
        have a1 : (frN l k).testBit i = false := by cases h2 : (frN l k).testBit i with | false => rfl | true => have := h _ h2; omega
        have a2 : (frN l k).testBit x = false := by cases h2 : (frN l k).testBit x with | false => rfl | true => have := h _ h2; omega
        rw [a1, a2]
      · rw [if_neg h1, if_neg h2]
  unfold tcF
  by_cases h1 : k = i
  · subst h1
    rw [show sw k k = k + 1 by simp [sw], if_neg (by omega), if_pos rfl]
    exact stay k (Nat.le_refl _) hlt
  · by_cases h2 : k = i + 1
    · subst h2
      rw [show sw i (i + 1) = i by simp [sw], if_pos rfl]
      refine stay i (Nat.le_refl _) fun x hx => ?_
      have h3 := hlt x hx
      rcases Nat.lt_succ_iff_lt_or_eq.1 h3 with h4 | h4
      · exact h4
      · rw [h4, hb] at hx; cases hx
    · have h3 : sw i k = k := by unfold sw; rw [if_neg h1, if_neg h2]
      rw [h3, if_neg h1, if_neg h2]
      by_cases h4 : i + 2 ≤ k
      · rw [if_pos ⟨h4, hk⟩]
        have h5 := (hC k hk).2.1
        have h24 := crd24 hC
        have hp := (pw_B (show k ≤ l.length by omega)).2
        show (tuI l.length i (bt l k).f).toNat.testBit (sw i x) = _
        have e2 : (bt l k).f = ((frN l k : Nat) : Int) := by unfold frN; omega
        rw [e2, tuI_nat i (by unfold pw at *; unfold frN; omega), Int.toNat_natCast, ts_bit, sw_sw]
      · rw [if_neg (by omega)]
        exact stay k (by omega) hlt
theorem tc_ok {l : List Bat} (hC : crdOk l) {i : Nat} (hi : i + 1 < l.length) (hb : (frN l (i + 1)).testBit i = false) : crdOk (tcL l i) := by
  intro j hj
  have hj2 : j < l.length := by unfold tcL at hj; rwa [tcG_len] at hj
  have hk : sw i j < l.length := (sw_lt hi).2 hj2
  have h24 := crd24 hC
  have hs := tc_s l hi hk
  rw [sw_sw] at hs
  have hf := fun x => tc_fr hC hi hb hk x
  rw [sw_sw] at hf
  have hB := (hC _ hk).2.2
  have hlt : frN (tcL l i) j < 2 ^ j := bit_lt fun x hx => by
    have h1 := hf (sw i x)
    rw [sw_sw, hx] at h1
    have h2 := fr_lt hC hk h1.symm
    have h3 : ¬ (sw i j = i + 1 ∧ sw i x = i) := by
      rintro ⟨a, b⟩
      rw [a, b, hb] at h1; cases h1
    unfold sw at h2 h3
    revert h2 h3
    split <;> split <;> (try split) <;> (try split) <;> omega
  have hn : 0 ≤ (bt (tcL l i) j).f := by
    unfold tcL
    rw [tcG_at l i _ hj2]
    unfold tcF
    split
    · exact (hC _ hi).2.1.1
    · split
      · exact (hC _ (by omega)).2.1.1
      · split
        · show 0 ≤ tuI _ _ _
          unfold tuI
          split
          · exact (hC _ hj2).2.1.1
          · omega
        · exact (hC _ hj2).2.1.1
  refine ⟨by omega, ⟨hn, ?_⟩, by rw [hs]; exact hB⟩
  unfold frN at hlt
  unfold pw
  omega
theorem tc_back {l : List Bat} (hC : crdOk l) {i : Nat} (hi : i + 1 < l.length) (hb : (frN l (i + 1)).testBit i = false) : ∀ (k : Nat), k < l.length → ∀ x, (backN (tcL l i) (sw i k)).testBit (sw i x) = (backN l k).testBit x := by
  have hlen : (tcL l i).length = l.length := tcG_len _ _ _
  intro k
  induction k using Nat.strongRecOn with
  | ind k ih =>
    intro hk x
    have w := way_back hC
    have w2 := way_back (tc_ok hC hi hb)
    rw [hlen] at w2
    have h1 : (backN (tcL l i) (sw i k)).testBit (sw i x) = true ↔ (backN l k).testBit x = true := by
      rw [w2.iff _ ((sw_lt hi).2 hk), w.iff k hk]
      constructor
      · rintro (h | ⟨q, h2, h3⟩)
        · exact .inl (sw_inj h)
        · have h4 := h2
          rw [← sw_sw i q, tc_fr hC hi hb hk] at h4
          have h5 := fr_lt hC hk h4
          rw [← sw_sw i q, ih _ h5 (by omega)] at h3
          exact .inr ⟨_, h4, h3⟩
      · rintro (h | ⟨q, h2, h3⟩)
        · exact .inl (by rw [h])
        · have h5 := fr_lt hC hk h2
          exact .inr ⟨sw i q, by rw [tc_fr hC hi hb hk]; exact h2, by rw [ih _ h5 (by omega)]; exact h3⟩
    cases h2 : (backN l k).testBit x with
    | true => exact h1.2 h2
    | false =>
      cases h3 : (backN (tcL l i) (sw i k)).testBit (sw i x) with
      | false => rfl
      | true => rw [h1.1 h3] at h2; cases h2
theorem tcL_len (l : List Bat) (i : Nat) : (tcL l i).length = l.length := tcG_len _ _ _
theorem tc_blame {l : List Bat} (hC : crdOk l) {i : Nat} (hi : i + 1 < l.length) (hb : (frN l (i + 1)).testBit i = false) (bad good : Nat) : blameN (tcL l i) (tsN i bad) (tsN i good) = tsN i (blameN l bad good) := bit_ext fun x => by
  rw [ts_bit, blame_iff, blame_iff, tcL_len, sw_lt hi]
  have hback : ∀ k, k < l.length → (backN (tcL l i) (sw i k)).testBit x = (backN l k).testBit (sw i x) := fun k hk => by rw [← tc_back hC hi hb k hk, sw_sw]
  refine and_congr_right fun _ => and_congr ⟨fun h k hk h1 => ?_, fun h k hk h1 => ?_⟩ ⟨fun h k hk h1 => ?_, fun h k hk h1 => ?_⟩
  · rw [← hback k hk]; exact h _ ((sw_lt hi).2 hk) (by rw [ts_bit, sw_sw]; exact h1)
  · rw [ts_bit] at h1
    have h2 := h _ ((sw_lt hi).2 hk) h1
    rw [← hback _ ((sw_lt hi).2 hk), sw_sw] at h2; exact h2
  · rw [← hback k hk]; exact h _ ((sw_lt hi).2 hk) (by rw [ts_bit, sw_sw]; exact h1)
  · rw [ts_bit] at h1
    have h2 := h _ ((sw_lt hi).2 hk) h1
    rw [← hback _ ((sw_lt hi).2 hk), sw_sw] at h2; exact h2
theorem tc_own {l : List Bat} (hC : crdOk l) {i : Nat} (hi : i + 1 < l.length) (hb : (frN l (i + 1)).testBit i = false) {k : Nat} (hk : k < l.length) : ownN (tcL l i) (sw i k) = tsN i (ownN l k) := bit_ext fun x => by
  rw [ts_bit, own_bit, own_bit, tcL_len, sw_lt hi]
  refine and_congr_right fun hx => ?_
  have hx2 := (sw_lt hi).2 hx
  have h1 := tc_back hC hi hb (sw i x) hx2 k
  have h2 := tc_s l hi hx2
  rw [sw_sw] at h1 h2
  rw [h1, h2]
theorem ts_bits {i s : Nat} (h : s < 2 ^ 24) (hi : i + 1 < 24) : List.Perm (bitsN (tsN i s) 32) ((bitsN s 32).map (sw i)) := by
  refine (List.perm_ext_iff_of_nodup (bits_nodup _ _) ?_).2 fun x => ?_
  · rw [List.nodup_iff_pairwise_ne, List.pairwise_map]
    exact (List.nodup_iff_pairwise_ne.1 (bits_nodup s 32)).imp fun h h2 => h (sw_inj h2)
  · rw [bits_mem, List.mem_map, ts_bit]
    constructor
    · rintro ⟨h1, h2⟩
      exact ⟨sw i x, bits_mem.2 ⟨by have := bit_of_lt h h2; omega, h2⟩, sw_sw i x⟩
    · rintro ⟨q, h1, rfl⟩
      rw [bits_mem] at h1
      have h2 := bit_of_lt h h1.2
      have h3 : sw i q < 24 := (sw_lt hi).2 h2
      exact ⟨by omega, by rw [sw_sw]; exact h1.2⟩
theorem sum_perm {a b : List Int} (h : List.Perm a b) : a.sum = b.sum := by
  induction h with
  | nil => rfl
  | cons x _ ih => simp [ih]
  | swap x y l => simp; omega
  | trans _ _ h1 h2 => rw [h1, h2]
theorem spF_perm {a b : List Int} (h : List.Perm a b) : spF a = spF b := by
  by_cases ha : a = []
  · subst ha; rw [h.nil_eq]
  · have hb : b ≠ [] := by intro h1; subst h1; exact ha h.eq_nil
    obtain ⟨h1, h2, h3⟩ := spF_mem a ha
    obtain ⟨h4, h5, h6⟩ := spF_mem b hb
    have h7 := (h4 _ (h.mem_iff.1 h2)).1
    have h8 := (h4 _ (h.mem_iff.1 h3)).2
    have h9 := (h1 _ (h.mem_iff.2 h5)).1
    have h10 := (h1 _ (h.mem_iff.2 h6)).2
    exact Prod.ext (by omega) (by omega)
theorem tc_cnt {l : List Bat} (hC : crdOk l) {i : Nat} (hi : i + 1 < l.length) (hb : (frN l (i + 1)).testBit i = false) (h24 : l.length ≤ 24) {k : Nat} (hk : k < l.length) : cntN (tcL l i) (sw i k) = cntN l k := by
  unfold cntN sumK
  rw [tc_own hC hi hb hk]
  have hlt : ownN l k < 2 ^ 24 := Nat.lt_of_lt_of_le (own_lt l k) (Nat.pow_le_pow_right (by omega) h24)
  rw [sum_perm ((ts_bits hlt (by omega)).map _), List.map_map]
  congr 1
  refine List.map_congr_left fun q hq => ?_
  exact tc_s l hi (bit_of_lt (own_lt l k) (bits_mem.1 hq).2)
theorem tc_call {l : List Bat} (hC : crdOk l) {i : Nat} (hi : i + 1 < l.length) (hb : (frN l (i + 1)).testBit i = false) (h24 : l.length ≤ 24) {can : Nat} (hc : can < 2 ^ l.length) : callN (tcL l i) (tsN i can) = tsN i (callN l can) := bit_ext fun x => by
  rw [ts_bit, call_bit h24 hc, call_bit (by rw [tcL_len]; exact h24) (by rw [tcL_len]; exact ts_lt hi hc)]
  constructor
  · rintro ⟨k, h1, h2⟩
    rw [ts_bit] at h1
    have hk := bit_of_lt hc h1
    refine ⟨sw i k, h1, ?_⟩
    have e := tc_own hC hi hb hk
    rw [sw_sw] at e
    rw [e, ts_bit] at h2
    exact h2
  · rintro ⟨k, h1, h2⟩
    have hk := bit_of_lt hc h1
    refine ⟨sw i k, by rw [ts_bit, sw_sw]; exact h1, ?_⟩
    rw [tc_own hC hi hb hk, ts_bit]; exact h2
theorem tc_span {l : List Bat} (hC : crdOk l) {i : Nat} (hi : i + 1 < l.length) (hb : (frN l (i + 1)).testBit i = false) (h24 : l.length ≤ 24) {can : Nat} (hc : can < 2 ^ l.length) : spanN (tcL l i) (tsN i can) = spanN l can := by
  unfold spanN
  have hlt : can < 2 ^ 24 := Nat.lt_of_lt_of_le hc (Nat.pow_le_pow_right (by omega) h24)
  rw [spF_perm ((ts_bits hlt (by omega)).map _), List.map_map]
  congr 1
  refine List.map_congr_left fun q hq => ?_
  exact tc_cnt hC hi hb h24 (bit_of_lt hc (bits_mem.1 hq).2)
theorem tc_bk {l : List Bat} (hC : crdOk l) {i : Nat} (hi : i + 1 < l.length) (hb : (frN l (i + 1)).testBit i = false) : backN (tcL l i) (i + 1) = tsN i (backN l i) := bit_ext fun x => by
  rw [ts_bit, ← tc_back hC hi hb i (by omega), sw_sw]
  have e : sw i i = i + 1 := by simp [sw]
  rw [e]
theorem ite_iff {α : Type} {p q : Prop} [Decidable p] [Decidable q] (h : p ↔ q) {a b c : α} (hbc : b = c) : (if p then a else b) = if q then a else c := by
  subst hbc
  by_cases hp : p
  · rw [if_pos hp, if_pos (h.1 hp)]
  · rw [if_neg hp, if_neg (fun hq => hp (h.2 hq))]
theorem tc_blE {l : List Bat} (hC : crdOk l) {i : Nat} (hi : i + 1 < l.length) (hb : (frN l (i + 1)).testBit i = false) (bad good : Int) : blE (tcL l i) (tuI l.length i bad) (tuI l.length i good) = blE l bad good := by
  have hC2 := tc_ok hC hi hb
  have e : chkE (tcL l i) [tuI l.length i bad, tuI l.length i good] = chkE l [bad, good] := by
    unfold chkE
    rw [if_pos hC, if_pos hC2]
    refine ite_iff ?_ rfl
    simp only [List.any_cons, List.any_nil, tcL_len, tuI_inB hi]
  unfold blE
  rw [e]
  by_cases hE : chkE l [bad, good] ≠ 0
  · rw [if_pos hE, if_pos hE]
  · rw [if_neg hE, if_neg hE]
    obtain ⟨_, hs⟩ := chk_ok (Decidable.not_not.1 hE)
    have hb1 := hs bad (by simp)
    have hg1 := hs good (by simp)
    obtain ⟨b, rfl⟩ : ∃ b : Nat, bad = (b : Int) := ⟨bad.toNat, by omega⟩
    obtain ⟨g, rfl⟩ : ∃ g : Nat, good = (g : Int) := ⟨good.toNat, by omega⟩
    have hbl : b < 2 ^ l.length := by unfold pw at hb1; omega
    have hgl : g < 2 ^ l.length := by unfold pw at hg1; omega
    rw [tuI_nat i hbl, tuI_nat i hgl]
    simp only [Int.toNat_natCast]
    refine ite_iff ?_ (ite_iff ?_ rfl)
    · have := ts_zero i b
      exact ⟨fun h => by omega, fun h => by omega⟩
    · rw [tc_blame hC hi hb]; exact ts_zero _ _
theorem tc_blR {l : List Bat} (hC : crdOk l) {i : Nat} (hi : i + 1 < l.length) (hb : (frN l (i + 1)).testBit i = false) (bad good : Int) : blR (tcL l i) (tuI l.length i bad) (tuI l.length i good) = tsN i (blR l bad good) ∧ blR l bad good < 2 ^ l.length := by
  unfold blR
  rw [tc_blE hC hi hb]
  by_cases hE : blE l bad good = 0
  · rw [if_pos hE, if_pos hE]
    have hE1 : chkE l [bad, good] = 0 := by
      apply Classical.byContradiction
      intro h
      unfold blE at hE
      rw [if_pos h] at hE
      exact h hE
    obtain ⟨_, hs⟩ := chk_ok hE1
    have hb1 := hs bad (by simp)
    have hg1 := hs good (by simp)
    obtain ⟨b, rfl⟩ : ∃ b : Nat, bad = (b : Int) := ⟨bad.toNat, by omega⟩
    obtain ⟨g, rfl⟩ : ∃ g : Nat, good = (g : Int) := ⟨good.toNat, by omega⟩
    have hbl : b < 2 ^ l.length := by unfold pw at hb1; omega
    have hgl : g < 2 ^ l.length := by unfold pw at hg1; omega
    rw [tuI_nat i hbl, tuI_nat i hgl]
    simp only [Int.toNat_natCast]
    exact ⟨tc_blame hC hi hb b g, blame_lt _ _ _⟩
  · rw [if_neg hE, if_neg hE, ts0]
    exact ⟨rfl, Nat.two_pow_pos _⟩
theorem tc_rec {l : List Bat} (hC : crdOk l) {i : Nat} (hi : i + 1 < l.length) (hb : (frN l (i + 1)).testBit i = false) (h24 : l.length ≤ 24) (bad good : Int) : recN (tcL l i) (tuI l.length i bad) (tuI l.length i good) = tsN i (recN l bad good) ∧ recN l bad good < 2 ^ l.length ∧ recS (tcL l i) (tuI l.length i bad) (tuI l.length i good) = recS l bad good := by
  obtain ⟨h1, h2⟩ := tc_blR hC hi hb bad good
  unfold recN recS
  rw [tc_blE hC hi hb, h1]
  by_cases hE : blE l bad good = 0
  · simp only [if_pos hE]
    exact ⟨tc_call hC hi hb h24 h2, call_lt h24 h2, tc_span hC hi hb h24 h2⟩
  · simp only [if_neg hE]
    exact ⟨(ts0 i).symm, Nat.two_pow_pos _, trivial⟩
end Go.Proofs.YtlalikkkobpfgaaDoor
