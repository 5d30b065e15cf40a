/-
  With more pencils no fewer boxes can be filled; orders make no difference. In plain Lean.
-/
import Derived.Test.YtpamkihpffoflaaBxU
set_option linter.unusedVariables false
set_option linter.unusedSimpArgs false
namespace Go.Proofs.Ytpamkihpffoflaa
open Go.AF

theorem canB_le {need : List Int} {l l' : List Pl} {b : Int} (h : ∀ t, ofP l t ≤ ofP l' t) (hc : canB need l b = true) : canB need l' b = true := by
  rw [canB_iff] at hc ⊢
  intro t a c
  exact Int.le_trans (hc t a c) (h t)
theorem most_le {need need' : List Int} {l l' : List Pr} (h : Vld need l) (h' : Vld need' l') (hc : ∀ b, canB need (toPl l) b = true → canB need' (toPl l') b = true) : mN need l ≤ mN need' l' := by
  obtain ⟨q, _, e1, _, _, _, _, _, _, c1, _⟩ := most_yes h
  obtain ⟨q', _, e2, _, _, _, _, _, _, _, c2⟩ := most_yes h'
  rw [e1, e2]
  refine Classical.byContradiction fun hn => ?_
  have := canB_mono h'.2.2.1 (show (q' : Int) + 1 ≤ (q : Int) by omega) (hc _ c1)
  rw [c2] at this; cases this
theorem most_ok {need : List Int} {l : List Pr} (h : Vld need l) : mE need l = 0 := by
  obtain ⟨_, _, _, _, e, _⟩ := most_yes h
  exact e
theorem ofP_set_le {l : List Pl} {k : Nat} (hk : k < l.length) (p : Pl) (t : Nat) (h : (if l[k].s &&& t = 0 then 0 else l[k].m) ≤ (if p.s &&& t = 0 then 0 else p.m)) : ofP l t ≤ ofP (l.set k p) t := by
  rw [ofP_set hk p t]
  have := ofP_er hk t
  unfold erP at this
  omega
theorem parts_ofP {l : List Pl} {k : Nat} (hk : k < l.length) (n : Int) (t : Nat) : ofP (l.set k ⟨l[k].s, l[k].m - n⟩ ++ [⟨l[k].s, n⟩]) t = ofP l t := by
  rw [ofP_append, ofP_one, ofP_set hk]
  have := ofP_er hk t
  unfold erP at this
  simp only []
  split at this <;> simp_all <;> omega

/-! ### Turning -/
theorem isum_rot1 (F : Nat → Int) : ∀ n, isum (fun i => F (i + 1)) n + F 0 = isum F (n + 1)
  | 0 => by simp [isum]
  | n + 1 => by
    have ih := isum_rot1 F n
    simp only [isum] at ih ⊢
    omega
theorem isum_step (F : Nat → Int) (L : Nat) (hL : 0 < L) : isum (fun i => F ((i + 1) % L)) L = isum F L := by
  obtain ⟨n, rfl⟩ : ∃ n, L = n + 1 := ⟨L - 1, by omega⟩
  rw [← isum_rot1 F n]
  simp only [isum]
  rw [Nat.mod_self, isum_congr (g := fun i => F (i + 1)) n (fun j hj => by rw [Nat.mod_eq_of_lt (by omega)])]
theorem isum_turned (L : Nat) (hL : 0 < L) : ∀ (T : Nat) (F : Nat → Int), isum (fun i => F ((i + T) % L)) L = isum F L
  | 0, F => isum_congr L fun j hj => by rw [Nat.add_zero, Nat.mod_eq_of_lt hj]
  | T + 1, F => by
    have h := isum_turned L hL T (fun j => F ((j + 1) % L))
    rw [isum_step F L hL] at h
    rw [← h]
    refine isum_congr L fun j _ => ?_
    rw [Nat.mod_add_mod, Nat.add_assoc]
theorem turn_inj {L T i j : Nat} (hi : i < L) (hj : j < L) (h : (i + T) % L = (j + T) % L) : i = j := by
  have e1 := Nat.div_add_mod (i + T) L
  have e2 := Nat.div_add_mod (j + T) L
  rw [h] at e1
  have e3 : L * ((i + T) / L) + (j + T) = L * ((j + T) / L) + (i + T) := by omega
  rcases Nat.lt_trichotomy ((i + T) / L) ((j + T) / L) with hlt | he | hlt
  · have := Nat.mul_le_mul_left L hlt
    rw [Nat.mul_succ] at this
    omega
  · rw [he] at e3; omega
  · have := Nat.mul_le_mul_left L hlt
    rw [Nat.mul_succ] at this
    omega
/-- A set of shades, turned. -/
def rotF (L T q : Nat) : Nat → Nat
  | 0 => 0
  | k + 1 => if q.testBit k then rotF L T q k ||| 1 * 2 ^ ((k + T) % L) else rotF L T q k
theorem rotF_bit (L T q : Nat) : ∀ k j, (rotF L T q k).testBit j = true ↔ ∃ i, i < k ∧ q.testBit i = true ∧ (i + T) % L = j
  | 0, j => by simp [rotF]
  | k + 1, j => by
    simp only [rotF]
    have ih := rotF_bit L T q k j
    by_cases hq : q.testBit k = true
    · rw [if_pos hq, Nat.testBit_or, Nat.one_mul, Nat.testBit_two_pow, Bool.or_eq_true, ih, decide_eq_true_eq]
      constructor
      · rintro (⟨i, a, c, d⟩ | h)
        · exact ⟨i, by omega, c, d⟩
        · exact ⟨k, by omega, hq, h⟩
      · rintro ⟨i, a, c, d⟩
        by_cases e : i = k
        · subst e; exact .inr d
        · exact .inl ⟨i, by omega, c, d⟩
    · rw [if_neg hq, ih]
      constructor
      · rintro ⟨i, a, c, d⟩; exact ⟨i, by omega, c, d⟩
      · rintro ⟨i, a, c, d⟩
        by_cases e : i = k
        · subst e; exact absurd c hq
        · exact ⟨i, by omega, c, d⟩
theorem rotF_at {L T q i : Nat} (hi : i < L) : (rotF L T q L).testBit ((i + T) % L) = q.testBit i := by
  cases h : q.testBit i with
  | true => exact (rotF_bit L T q L _).2 ⟨i, hi, h, rfl⟩
  | false =>
    cases h2 : (rotF L T q L).testBit ((i + T) % L) with
    | false => rfl
    | true =>
      obtain ⟨j, a, c, d⟩ := (rotF_bit L T q L _).1 h2
      rw [turn_inj a hi d, h] at c
      cases c
theorem lt_of_bits {x L : Nat} (h : ∀ j, L ≤ j → x.testBit j = false) : x < 2 ^ L := by
  refine Nat.lt_pow_two_of_testBit x fun i hi => h i hi
theorem rotF_lt {L T q : Nat} (hL : 0 < L) (k : Nat) : rotF L T q k < 2 ^ L := by
  refine lt_of_bits fun j hj => ?_
  cases h : (rotF L T q k).testBit j with
  | false => rfl
  | true =>
    obtain ⟨i, _, _, d⟩ := (rotF_bit L T q k j).1 h
    have := Nat.mod_lt (i + T) hL
    omega
/-- A set, turned back. -/
def unR (L T t : Nat) : Nat → Nat
  | 0 => 0
  | k + 1 => if t.testBit ((k + T) % L) then unR L T t k ||| 1 * 2 ^ k else unR L T t k
theorem unR_bit (L T t : Nat) : ∀ k j, (unR L T t k).testBit j = (decide (j < k) && t.testBit ((j + T) % L))
  | 0, j => by simp [unR]
  | k + 1, j => by
    simp only [unR]
    have ih := unR_bit L T t k j
    by_cases e : j = k
    · subst e
      split
      · rename_i h; rw [Nat.testBit_or, Nat.one_mul, Nat.testBit_two_pow_self, h]; simp
      · rename_i h; rw [ih]; simp [h]
    · have e2 : decide (j < k + 1) = decide (j < k) := by simp; omega
      have e3 : ¬ k = j := fun x => e x.symm
      rw [e2]
      split
      · rw [Nat.testBit_or, ih, Nat.one_mul, Nat.testBit_two_pow]; simp [e3]
      · exact ih
/-- What boxes need, turned. -/
def ownF (need : List Int) (T : Nat) : Nat → List Int
  | 0 => List.replicate need.length 0
  | k + 1 => (ownF need T k).set ((k + T) % need.length) (need[k]?.getD 0)
theorem ownF_len (need : List Int) (T : Nat) : ∀ k, (ownF need T k).length = need.length
  | 0 => by simp [ownF]
  | k + 1 => by simp [ownF, ownF_len need T k]
theorem ownF_get {need : List Int} {T : Nat} : ∀ k i, k ≤ need.length → i < k → (ownF need T k)[(i + T) % need.length]?.getD 0 = need[i]?.getD 0
  | k + 1, i, hk, hi => by
    simp only [ownF]
    have hm := Nat.mod_lt (k + T) (show need.length > 0 by omega)
    rw [getD_set, ownF_len]
    by_cases e : i = k
    · subst e; rw [if_pos ⟨rfl, hm⟩]
    · rw [if_neg (fun x => e (turn_inj (by omega) (by omega) x.1))]
      exact ownF_get k i (by omega) (by omega)
/-- Piles, turned. -/
def turnP (L T : Nat) (l : List Pl) (k : Nat) : List Pl := (List.range k).map fun i => ⟨rotF L T (l[(i + T) % l.length]?.getD ⟨0, 0⟩).s L, (l[(i + T) % l.length]?.getD ⟨0, 0⟩).m⟩
theorem turnP_len (L T : Nat) (l : List Pl) (k : Nat) : (turnP L T l k).length = k := by simp [turnP]
section
variable {need : List Int} {l : List Pl} {T t t' : Nat}
theorem own_sum (h0 : 0 < need.length) (h : ∀ i, i < need.length → t.testBit i = t'.testBit ((i + T) % need.length)) : sumS (ownF need T need.length) t' = sumS need t := by
  unfold sumS
  rw [ownF_len, ← isum_turned need.length h0 T]
  refine isum_congr _ fun i hi => ?_
  rw [h i hi, ownF_get need.length i (Nat.le_refl _) hi]
theorem turn_ofP {L : Nat} (hL : 0 < L) (hl : ∀ p ∈ l, p.s < 2 ^ L) (hl0 : 0 < l.length) (ht : t < 2 ^ L) (h : ∀ i, i < L → t.testBit i = t'.testBit ((i + T) % L)) : ofP (turnP L T l l.length) t' = ofP l t := by
  rw [ofP_isum, ofP_isum l t, turnP_len, ← isum_turned l.length hl0 T (fun i => if (l[i]?.getD ⟨0, 0⟩).s &&& t = 0 then 0 else (l[i]?.getD ⟨0, 0⟩).m)]
  refine isum_congr _ fun i hi => ?_
  have e : (turnP L T l l.length)[i]?.getD ⟨0, 0⟩ = ⟨rotF L T (l[(i + T) % l.length]?.getD ⟨0, 0⟩).s L, (l[(i + T) % l.length]?.getD ⟨0, 0⟩).m⟩ := by simp [turnP, hi]
  rw [e]
  have hp : (l[(i + T) % l.length]?.getD ⟨0, 0⟩).s < 2 ^ L := by
    have hm := Nat.mod_lt (i + T) hl0
    rw [List.getElem?_eq_getElem hm]
    exact hl _ (List.getElem_mem _)
  generalize (l[(i + T) % l.length]?.getD ⟨0, 0⟩) = p at hp
  have key : rotF L T p.s L &&& t' = 0 ↔ p.s &&& t = 0 := by
    rw [and_zero_iff, and_zero_iff]
    constructor
    · rintro hz i ⟨a, c⟩
      have hi : i < L := by
        rcases Nat.lt_or_ge i L with h1 | h1
        · exact h1
        · rw [Nat.testBit_lt_two_pow (Nat.lt_of_lt_of_le hp (Nat.pow_le_pow_right (by omega) h1))] at a; cases a
      exact hz ((i + T) % L) ⟨by rw [rotF_at hi]; exact a, by rw [← h i hi]; exact c⟩
    · rintro hz j ⟨a, c⟩
      obtain ⟨i, hi, a2, rfl⟩ := (rotF_bit L T p.s L j).1 a
      exact hz i ⟨a2, by rw [h i hi]; exact c⟩
  simp only []
  by_cases hz : p.s &&& t = 0
  · rw [if_pos hz, if_pos (key.2 hz)]
  · rw [if_neg hz, if_neg (fun x => hz (key.1 x))]
theorem turn_can {b : Int} (h0 : 0 < need.length) (hl : ∀ p ∈ l, p.s < 2 ^ need.length) (hl0 : 0 < l.length) : canB (ownF need T need.length) (turnP need.length T l l.length) b = canB need l b := by
  have hp := pow_pos' need.length
  have hA : allS need.length = 2 ^ need.length - 1 := rfl
  have hlen := ownF_len need T need.length
  have d1 : canB need l b = true → canB (ownF need T need.length) (turnP need.length T l l.length) b = true := fun hc => by
    rw [canB_iff] at hc ⊢
    rw [hlen]
    intro t' h1 h2
    have hb : ∀ i, i < need.length → (unR need.length T t' need.length).testBit i = t'.testBit ((i + T) % need.length) := fun i hi => by rw [unR_bit]; simp [hi]
    have hlt : unR need.length T t' need.length < 2 ^ need.length := lt_of_bits fun j hj => by rw [unR_bit]; simp; omega
    rw [own_sum h0 hb, turn_ofP h0 hl hl0 hlt hb]
    by_cases hz : unR need.length T t' need.length = 0
    · rw [hz, sumS_zero, ofP_0]; simp
    · exact hc _ (by omega) (by omega)
  have d2 : canB (ownF need T need.length) (turnP need.length T l l.length) b = true → canB need l b = true := fun hc => by
    rw [canB_iff] at hc ⊢
    rw [hlen] at hc
    intro t h1 h2
    have hb : ∀ i, i < need.length → t.testBit i = (rotF need.length T t need.length).testBit ((i + T) % need.length) := fun i hi => (rotF_at hi).symm
    rw [← own_sum h0 hb, ← turn_ofP h0 hl hl0 (by omega) hb]
    have hlt := rotF_lt (L := need.length) (T := T) (q := t) h0 need.length
    by_cases hz : rotF need.length T t need.length = 0
    · rw [hz, sumS_zero, ofP_0]; simp
    · exact hc _ (by omega) (by omega)
  cases e : canB need l b with
  | true => exact d1 e
  | false =>
    cases e2 : canB (ownF need T need.length) (turnP need.length T l l.length) b with
    | false => rfl
    | true => rw [d2 e2] at e; cases e
end

/-! ### Lists of piles, as they are handed over -/
def prOf (ps : List Pl) : List Pr := ps.map fun p => ⟨(p.s : Int), p.m⟩
theorem prOf_raw (ps : List Pl) : rawV (prOf ps) = plV ps := by
  have e : (prOf ps).flatMap Pr.cells = ps.flatMap Pl.cells := by
    unfold prOf
    rw [List.flatMap_map]; rfl
  unfold rawV plV
  rw [e]; simp [prOf]
theorem toPl_prOf (ps : List Pl) : toPl (prOf ps) = ps := by
  induction ps with
  | nil => rfl
  | cons p ps ih =>
    unfold toPl prOf at ih ⊢
    simp only [List.map_cons, ih, Int.toNat_natCast]
theorem vld_pr {need : List Int} {l : List Pr} {ps : List Pl} (h : Vld need l) (hp : okP need.length ps) : Vld need (prOf ps) := by
  refine ⟨h.1, by simp [prOf]; exact hp.1, h.2.2.1, fun q hq => ?_, h.2.2.2.2⟩
  simp only [prOf, List.mem_map] at hq
  obtain ⟨p, hp1, rfl⟩ := hq
  have := hp.2 p hp1
  exact ⟨⟨by show (0 : Int) ≤ (p.s : Int); omega, by show (p.s : Int) ≤ ((2 ^ need.length : Nat) : Int) - 1; omega⟩, this.2.1, this.2.2⟩
theorem okP_set {n k : Nat} {l : List Pl} {p : Pl} (h : okP n l) (hp : p.s < 2 ^ n ∧ 0 ≤ p.m ∧ p.m ≤ 1048576) : okP n (l.set k p) := ⟨by rw [List.length_set]; exact h.1, fun q hq => by
  rcases List.mem_or_eq_of_mem_set hq with hq | rfl
  · exact h.2 q hq
  · exact hp⟩
theorem okP_snoc {n : Nat} {l : List Pl} {p : Pl} (h : okP n l) (h8 : l.length < 8) (hp : p.s < 2 ^ n ∧ 0 ≤ p.m ∧ p.m ≤ 1048576) : okP n (l ++ [p]) := ⟨by simp; omega, fun q hq => by
  rcases List.mem_append.1 hq with hq | hq
  · exact h.2 q hq
  · simp at hq; subst hq; exact hp⟩
theorem okP_turn {n T : Nat} {l : List Pl} (h : okP n l) (hn : 0 < n) (hl0 : 0 < l.length) : okP n (turnP n T l l.length) := ⟨by rw [turnP_len]; exact h.1, fun q hq => by
  simp only [turnP, List.mem_map, List.mem_range] at hq
  obtain ⟨i, hi, rfl⟩ := hq
  have hm := Nat.mod_lt (i + T) hl0
  rw [List.getElem?_eq_getElem hm]
  have := h.2 l[(i + T) % l.length] (List.getElem_mem _)
  exact ⟨rotF_lt hn n, this.2⟩⟩
theorem turnP_succ (n T : Nat) (l : List Pl) (k : Nat) : turnP n T l (k + 1) = turnP n T l k ++ [⟨rotF n T (l[(k + T) % l.length]?.getD ⟨0, 0⟩).s n, (l[(k + T) % l.length]?.getD ⟨0, 0⟩).m⟩] := by simp [turnP, List.range_succ]
theorem ownF_ok {need : List Int} (hn : okN need) (T : Nat) : ∀ k, okN (ownF need T k)
  | 0, x, hx => by simp [ownF] at hx; omega
  | k + 1, x, hx => by
    simp only [ownF] at hx
    rcases List.mem_or_eq_of_mem_set hx with h | rfl
    · exact ownF_ok hn T k x h
    · by_cases hk : k < need.length
      · rw [List.getElem?_eq_getElem hk]; exact hn _ (List.getElem_mem _)
      · rw [List.getElem?_eq_none (by omega)]; simp
theorem vld_turn {need : List Int} {l : List Pr} (h : Vld need l) (T : Nat) (hl0 : 0 < (toPl l).length) : Vld (ownF need T need.length) (prOf (turnP need.length T (toPl l) (toPl l).length)) := by
  have hlen := ownF_len need T need.length
  have h0 := h.1.1
  have hp := okP_turn (T := T) (toPl_ok h) h0 hl0
  have hs : 0 < (ownF need T need.length).sum := by
    rw [← sumS_all, hlen, own_sum h0 (t := allS need.length) (fun i hi => by rw [allS_bit _ i hi, allS_bit _ _ (Nat.mod_lt _ h0)]), sumS_all]
    exact h.2.2.2.2
  refine ⟨by rw [hlen]; exact h.1, by simp [prOf]; exact hp.1, ownF_ok h.2.2.1 T _, fun q hq => ?_, hs⟩
  rw [hlen]
  simp only [prOf, List.mem_map] at hq
  obtain ⟨p, hp1, rfl⟩ := hq
  have := hp.2 p hp1
  exact ⟨⟨by show (0 : Int) ≤ (p.s : Int); omega, by show (p.s : Int) ≤ ((2 ^ need.length : Nat) : Int) - 1; omega⟩, this.2.1, this.2.2⟩
theorem most_turn {need : List Int} {l : List Pr} (h : Vld need l) (T : Nat) (hl0 : 0 < (toPl l).length) : mN (ownF need T need.length) (prOf (turnP need.length T (toPl l) (toPl l).length)) = mN need l := by
  have hl := toPl_ok h
  have hc : ∀ b, canB (ownF need T need.length) (toPl (prOf (turnP need.length T (toPl l) (toPl l).length))) b = canB need (toPl l) b := fun b => by
    rw [toPl_prOf]; exact turn_can h.1.1 (fun p hp => (hl.2 p hp).1) hl0
  have h1 := most_le h (vld_turn h T hl0) (fun b hb => by rw [hc]; exact hb)
  have h2 := most_le (vld_turn h T hl0) h (fun b hb => by rw [hc] at hb; exact hb)
  omega
theorem most_same {need : List Int} {l : List Pr} {ps : List Pl} (h : Vld need l) (hp : okP need.length ps) (he : ∀ t, ofP ps t = ofP (toPl l) t) : mN need (prOf ps) = mN need l := by
  have h1 := most_le h (vld_pr h hp) (fun b hb => by rw [toPl_prOf]; exact canB_le (fun t => by rw [he]; exact Int.le_refl _) hb)
  have h2 := most_le (vld_pr h hp) h (fun b hb => by rw [toPl_prOf] at hb; exact canB_le (fun t => by rw [he]; exact Int.le_refl _) hb)
  omega
theorem most_more {need : List Int} {l : List Pr} {ps : List Pl} (h : Vld need l) (hp : okP need.length ps) (he : ∀ t, ofP (toPl l) t ≤ ofP ps t) : mN need l ≤ mN need (prOf ps) :=
  most_le h (vld_pr h hp) (fun b hb => by rw [toPl_prOf]; exact canB_le he hb)
theorem most_LR (v : List Int) (ps : List Pl) (L R : Nat) (hL : v.length = L) (hR : ps.length = R) (hnl : L ≤ bigN) (hll : R ≤ bigN) : Pure Try.prog 12 [.is (v.flatMap i1) L, .is (ps.flatMap Pl.cells) R] (.tuple [.int .i64 (mN v (prOf ps)), .int .i64 (mP v (prOf ps)), .int .i64 (mE v (prOf ps))]) := by
  subst hL; subst hR
  have h := most_n v (prOf ps) hnl (by simp [prOf]; exact hll)
  rw [prOf_raw] at h
  exact h
end Go.Proofs.Ytpamkihpffoflaa
