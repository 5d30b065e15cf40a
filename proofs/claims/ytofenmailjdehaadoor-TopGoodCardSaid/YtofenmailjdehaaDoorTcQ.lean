/-
  What the statement about causes asks: the rows that can be to blame are those that can be bad. No program in sight.
-/
import Derived.Test.YtofenmailjdehaaDoorTcP
import Derived.Test.YtofenmailjdehaaDoorRcT
set_option linter.unusedVariables false
set_option linter.unusedSimpArgs false
namespace Go.Proofs.YtofenmailjdehaaDoor
open Go.AF
theorem szN_0 {s : Nat} (h : s < 256) (hz : szN s = 0) : s = 0 := by
  apply Nat.eq_of_testBit_eq
  intro i
  rw [Nat.zero_testBit]
  cases hb : s.testBit i with
  | false => rfl
  | true =>
    exfalso
    have hi : i < 8 := bit_of_lt (n := 8) h hb
    have hm : i ∈ bitsN s 8 := bits_mem.2 ⟨hi, hb⟩
    unfold szN at hz
    rw [List.length_eq_zero_iff] at hz
    rw [hz] at hm
    cases hm
theorem szN_1 {s r : Nat} (h : s < 256) (hz : szN s ≤ 1) (hr : s.testBit r = true) : s = 2 ^ r := by
  apply Nat.eq_of_testBit_eq
  intro i
  rw [Nat.testBit_two_pow]
  have hm : ∀ j, s.testBit j = true → j ∈ bitsN s 8 := fun j hb => bits_mem.2 ⟨bit_of_lt (n := 8) h hb, hb⟩
  cases hb : s.testBit i with
  | true =>
    unfold szN at hz
    have h1 := hm i hb
    have h2 := hm r hr
    have : ∀ L : List Nat, L.length ≤ 1 → i ∈ L → r ∈ L → r = i := fun L hL a b => by
      match L, hL with
      | [], _ => cases a
      | [x], _ => rw [List.mem_singleton] at a b; omega
    rw [decide_eq_true (this _ hz h1 h2)]
  | false =>
    rw [decide_eq_false]
    intro e
    subst e
    rw [hr] at hb
    cases hb
theorem szN_pow : ∀ r : Nat, r < 8 → szN (2 ^ r) = 1 := by decide
theorem bits_pow : ∀ r : Nat, r < 32 → bitsN (2 ^ r) 32 = [r] := by decide
theorem tru_mem {c : Crt} {l : List Lk} {a b : Nat} : (a, b) ∈ truL c l ↔ a ∈ setsL c.rows.length c.clamps ∧ b ∈ setsL c.cols.toNat c.dies ∧ l.all (fitB a b) = true := by
  unfold truL fitL
  simp only [List.mem_flatMap, List.mem_map, List.mem_filter, Prod.mk.injEq]
  constructor
  · rintro ⟨a', ha, b', ⟨hb, hf⟩, rfl, rfl⟩; exact ⟨ha, hb, hf⟩
  · rintro ⟨ha, hb, hf⟩; exact ⟨a, ha, b, ⟨hb, hf⟩, rfl, rfl⟩
section
variable {c : Crt} {l : List Lk}
theorem seen_ne {s : Int} (hz : seenN c s l ≠ 0) : ∃ x ∈ l, x.s = s := by
  obtain ⟨j, hj⟩ := Nat.exists_testBit_of_ne_zero hz
  obtain ⟨x, hx, hs, _⟩ := (seen_bit c s l j).1 hj
  exact ⟨x, hx, hs⟩
theorem in_one (hz : seenN c 1 l ≠ 0) {r r' : Nat} (h : InRow l r) (h' : InRow l r') : r = r' := by
  obtain ⟨x, hx, hs⟩ := seen_ne hz
  rw [← h.1 x hx hs, ← h'.1 x hx hs]
theorem row_fit {r : Nat} : l.all (fitB (2 ^ r) 0) = true ↔ InRow l r := by
  rw [List.all_eq_true]
  have hb : ∀ x : Lk, badB (2 ^ r) 0 x.r.toNat x.c.toNat = decide (r = x.r.toNat) := fun x => by unfold badB; rw [Nat.zero_testBit, Bool.or_false, Nat.testBit_two_pow]
  constructor
  · intro h
    refine ⟨fun x hx hs => ?_, fun x hx hs => ?_⟩
    · have := h x hx
      unfold fitB at this
      rw [if_neg (by omega), if_pos hs, hb, decide_eq_true_eq] at this
      exact this.symm
    · have := h x hx
      unfold fitB at this
      rw [if_pos hs, hb] at this
      intro e
      rw [decide_eq_true e.symm] at this
      cases this
  · rintro ⟨h1, h2⟩ x hx
    unfold fitB
    by_cases e0 : x.s = 0
    · rw [if_pos e0, hb, decide_eq_false (fun e => h2 x hx e0 e.symm)]; rfl
    · rw [if_neg e0]
      by_cases e1 : x.s = 1
      · rw [if_pos e1, hb, decide_eq_true (h1 x hx e1).symm]
      · rw [if_neg e1]
theorem tru_row (h : Fit c l) {r : Nat} (hr : r < c.rows.length) (hin : InRow l r) : (2 ^ r, 0) ∈ truL (topC c) l := by
  obtain ⟨⟨_, hR⟩, _⟩ := fit_c h
  refine tru_mem.2 ⟨sets_mem.2 ⟨Nat.pow_lt_pow_right (by omega) hr, ?_⟩, sets_mem.2 ⟨Nat.two_pow_pos _, ?_⟩, row_fit.2 hin⟩
  · rw [szN_pow r (by omega)]; exact Int.le_refl _
  · exact Int.le_refl _
theorem tru_only (h : Fit c l) (hz : seenN c 1 l ≠ 0) {t : Nat × Nat} (ht : t ∈ truL (topC c) l) : ∃ r, r < c.rows.length ∧ InRow l r ∧ t = (2 ^ r, 0) := by
  obtain ⟨⟨_, hR⟩, ⟨_, hC, _⟩, _⟩ := fit_c h
  obtain ⟨a, b⟩ := t
  obtain ⟨h1, h2, h3⟩ := tru_mem.1 ht
  obtain ⟨h4, h5⟩ := sets_mem.1 h1
  obtain ⟨h6, h7⟩ := sets_mem.1 h2
  have h4 : a < 2 ^ c.rows.length := h4
  have h5 : (szN a : Int) ≤ 1 := h5
  have h6 : b < 2 ^ cN c := h6
  have h7 : (szN b : Int) ≤ 0 := h7
  have p1 := Nat.pow_le_pow_right (show 0 < 2 by omega) hR
  have p2 := Nat.pow_le_pow_right (show 0 < 2 by omega) hC
  have hb0 : b = 0 := szN_0 (by omega) (by omega)
  subst hb0
  obtain ⟨x, hx, hs⟩ := seen_ne hz
  have hf := List.all_eq_true.1 h3 x hx
  unfold fitB at hf
  rw [if_neg (by omega), if_pos hs] at hf
  have hbit : a.testBit x.r.toNat = true := by
    unfold badB at hf
    rw [Nat.zero_testBit, Bool.or_false] at hf
    exact hf
  have ha : a = 2 ^ x.r.toNat := szN_1 (by omega) (by omega) hbit
  refine ⟨x.r.toNat, (fit_l h hx).1, row_fit.1 (by rw [← ha]; exact h3), by rw [← ha]⟩
theorem tru_zero (h : Fit c l) (hz : seenN c 1 l = 0) : (0, 0) ∈ truL (topC c) l := by
  refine tru_mem.2 ⟨sets_mem.2 ⟨Nat.two_pow_pos _, show ((szN 0 : Nat) : Int) ≤ 1 by decide⟩, sets_mem.2 ⟨Nat.two_pow_pos _, Int.le_refl _⟩, ?_⟩
  rw [List.all_eq_true]
  intro x hx
  have hs : x.s ≠ 1 := fun e => by
    have := (seen_bit c 1 l (plN c x)).2 ⟨x, hx, e, rfl⟩
    rw [hz, Nat.zero_testBit] at this
    cases this
  unfold fitB badB
  rw [if_neg hs, Nat.zero_testBit, Nat.zero_testBit]
  split <;> rfl
/-! ### A picture of one truth -/
theorem pic_one (c : Crt) (t : Nat × Nat) : ∀ (ts : List (Nat × Nat)) (p : Pic), (∀ x ∈ ts, x = t) → p.cr = t.1 → p.lo = manyN c t.1 t.2 → p.hi = manyN c t.1 t.2 → p.n ≠ 0 → (ts.foldl (picA c) p).cr = t.1 ∧ (ts.foldl (picA c) p).lo = manyN c t.1 t.2 ∧ (ts.foldl (picA c) p).hi = manyN c t.1 t.2
  | [], p, _, h1, h2, h3, _ => ⟨h1, h2, h3⟩
  | x :: ts, p, hx, h1, h2, h3, h4 => by
    obtain rfl := hx x (by simp)
    refine pic_one c x ts _ (fun y hy => hx y (by simp [hy])) ?_ ?_ ?_ (Nat.succ_ne_zero _)
    · show p.cr ||| x.1 = _
      rw [h1, Nat.or_self]
    · show min (min _ (if p.n = 0 then _ else p.lo)) (if p.n = 0 then _ else p.hi) = _
      rw [if_neg h4, if_neg h4, h2, h3]
      omega
    · show max (max _ (if p.n = 0 then _ else p.lo)) (if p.n = 0 then _ else p.hi) = _
      rw [if_neg h4, if_neg h4, h2, h3]
      omega
theorem pic_all (c : Crt) {t : Nat × Nat} {ts : List (Nat × Nat)} (h : ∀ x ∈ ts, x = t) (hn : ts ≠ []) : (picF c ts).cr = t.1 ∧ (picF c ts).lo = manyN c t.1 t.2 ∧ (picF c ts).hi = manyN c t.1 t.2 := by
  match ts, hn with
  | x :: ts, _ =>
    obtain rfl := h x (by simp)
    refine pic_one c x ts _ (fun y hy => h y (by simp [hy])) ?_ ?_ ?_ (Nat.succ_ne_zero _)
    · show 0 ||| x.1 = _
      rw [Nat.zero_or]
    · show min (min _ (if (0 : Nat) = 0 then _ else _)) (if (0 : Nat) = 0 then _ else _) = _
      rw [if_pos rfl, if_pos rfl]
      omega
    · show max (max _ (if (0 : Nat) = 0 then _ else _)) (if (0 : Nat) = 0 then _ else _) = _
      rw [if_pos rfl, if_pos rfl]
      omega
theorem many_row (c : Crt) {r : Nat} : ∀ k, manyF (topC c) (2 ^ r) 0 k = if r < k then nt c.rows r * c.cols else 0
  | 0 => by rw [if_neg (by omega)]; rfl
  | k + 1 => by
    rw [manyF, many_row c k, Nat.testBit_two_pow]
    have hz : szN 0 = 0 := by decide
    show _ + (if decide (r = k) = true then nt c.rows k * c.cols else nt c.rows k * (szN 0 : Int)) = _
    rw [hz]
    by_cases h : r = k
    · subst h
      rw [if_neg (by omega), if_pos (decide_eq_true rfl), if_pos (by omega)]
      omega
    · rw [show decide (r = k) = false from decide_eq_false h, if_neg (show ¬ (false = true) by decide)]
      by_cases h2 : r < k
      · rw [if_pos h2, if_pos (by omega)]; simp
      · rw [if_neg h2, if_neg (by omega)]; simp
/-! ### What is called back of a row -/
theorem own_row (h : Fit c l) {r : Nat} (hr : r < c.rows.length) (j : Nat) : (ownN (crds c) r).testBit j = true ↔ c.rows.length + r * cN c ≤ j ∧ j < c.rows.length + r * cN c + cN c := by
  obtain ⟨_, ⟨hC, _⟩, hn⟩ := fit_c h
  have hrow : ∀ j, c.rows.length ≤ j → ((j - c.rows.length) / cN c = r ↔ c.rows.length + r * cN c ≤ j ∧ j < c.rows.length + r * cN c + cN c) := fun j hj => by
    rw [Nat.div_eq_iff (by omega)]
    omega
  have hend : c.rows.length + r * cN c + cN c ≤ totN c := by
    have h1 : (r + 1) * cN c ≤ c.rows.length * cN c := Nat.mul_le_mul_right _ hr
    rw [Nat.add_mul, Nat.one_mul] at h1
    unfold totN
    omega
  rw [own_bit, crds_len]
  constructor
  · rintro ⟨h1, h2, h3⟩
    unfold crds at h3
    rw [bt_cards h1] at h3
    unfold cardF at h3
    by_cases hj : j < c.rows.length
    · rw [if_pos hj] at h3
      exact absurd h3 (by decide)
    · rcases (crds_back h h1 r).1 h2 with h4 | ⟨h4, h5⟩
      · omega
      · exact (hrow j h4).1 h5.symm
  · rintro ⟨h1, h2⟩
    have hj : c.rows.length ≤ j := by omega
    have hjt : j < totN c := by omega
    have e := (hrow j hj).2 ⟨h1, h2⟩
    refine ⟨hjt, (crds_back h hjt r).2 (.inr ⟨hj, e.symm⟩), ?_⟩
    unfold crds
    rw [bt_cards hjt]
    unfold cardF
    rw [if_neg (by omega), e]
    have := hn _ (nt_mem hr)
    show nt c.rows r > 0
    omega
theorem cnt_row (h : Fit c l) {r : Nat} (hr : r < c.rows.length) : ∀ p, sumK (crds c) (bitsN (ownN (crds c) r) p) = nt c.rows r * ((min p (c.rows.length + r * cN c + cN c) - min p (c.rows.length + r * cN c) : Nat) : Int)
  | 0 => by
    rw [Nat.zero_min, Nat.zero_min]
    show (0 : Int) = nt c.rows r * ((0 : Nat) : Int)
    simp
  | p + 1 => by
    obtain ⟨_, ⟨hC, _⟩, _⟩ := fit_c h
    have ih := cnt_row h hr p
    cases hb : (ownN (crds c) r).testBit p with
    | true =>
      rw [bitsN_succ, if_pos hb, sumK_snoc, ih]
      obtain ⟨h1, h2⟩ := (own_row h hr p).1 hb
      have hjt : p < totN c := by have := ((own_bit _ _ _).1 hb).1; rwa [crds_len] at this
      have hs : (bt (crds c) p).s = nt c.rows r := by
        unfold crds
        rw [bt_cards hjt]
        unfold cardF
        rw [if_neg (by omega), show (p - c.rows.length) / cN c = r from by rw [Nat.div_eq_iff (by omega)]; omega]
      rw [hs, show min (p + 1) (c.rows.length + r * cN c + cN c) - min (p + 1) (c.rows.length + r * cN c) = (min p (c.rows.length + r * cN c + cN c) - min p (c.rows.length + r * cN c)) + 1 by omega]
      push_cast
      rw [Int.mul_add, Int.mul_one]
    | false =>
      rw [bitsN_succ, if_neg (by rw [hb]; decide), ih]
      have hno : ¬ (c.rows.length + r * cN c ≤ p ∧ p < c.rows.length + r * cN c + cN c) := fun e => by
        rw [(own_row h hr p).2 e] at hb
        cases hb
      rw [show min (p + 1) (c.rows.length + r * cN c + cN c) - min (p + 1) (c.rows.length + r * cN c) = min p (c.rows.length + r * cN c + cN c) - min p (c.rows.length + r * cN c) by omega]
theorem cnt_of (h : Fit c l) {r : Nat} (hr : r < c.rows.length) : cntN (crds c) r = nt c.rows r * c.cols := by
  obtain ⟨⟨_, hR⟩, ⟨hC, _, e⟩, _⟩ := fit_c h
  have hs := h.sz
  have h1 : (r + 1) * cN c ≤ c.rows.length * cN c := Nat.mul_le_mul_right _ hr
  rw [Nat.add_mul, Nat.one_mul] at h1
  unfold totN at hs
  unfold cntN
  rw [cnt_row h hr 32, e, show min 32 (c.rows.length + r * cN c + cN c) - min 32 (c.rows.length + r * cN c) = cN c by omega]
/-! ### The statement -/
def opT (c : Crt) (l : List Lk) : Int := if (truL (topC c) l).length = 0 then 6 else 0
theorem op_row (h : Fit c l) (hz : seenN c 1 l ≠ 0) {r : Nat} (hr : r < c.rows.length) (hin : InRow l r) : opT c l = 0 ∧ (picF (topC c) (truL (topC c) l)).cr = 2 ^ r ∧ (picF (topC c) (truL (topC c) l)).lo = nt c.rows r * c.cols ∧ (picF (topC c) (truL (topC c) l)).hi = nt c.rows r * c.cols := by
  have hm := tru_row h hr hin
  have hne : truL (topC c) l ≠ [] := fun e => by rw [e] at hm; cases hm
  have hall : ∀ x ∈ truL (topC c) l, x = (2 ^ r, 0) := fun x hx => by
    obtain ⟨r', _, hin', rfl⟩ := tru_only h hz hx
    rw [in_one hz hin hin']
  obtain ⟨h1, h2, h3⟩ := pic_all (topC c) hall hne
  have hmn : manyN (topC c) (2 ^ r) 0 = nt c.rows r * c.cols := by
    show manyF (topC c) (2 ^ r) 0 c.rows.length = _
    rw [many_row, if_pos hr]
  refine ⟨by unfold opT; rw [if_neg (fun e => hne (List.length_eq_zero_iff.1 e))], h1, ?_, ?_⟩
  · rw [h2]; exact hmn
  · rw [h3]; exact hmn
theorem op_none (h : Fit c l) (hz : seenN c 1 l ≠ 0) (hno : ∀ r, r < c.rows.length → ¬ InRow l r) : opT c l = 6 := by
  unfold opT
  rw [if_pos]
  rw [List.length_eq_zero_iff]
  match e : truL (topC c) l with
  | [] => rfl
  | t :: ts =>
    obtain ⟨r, hr, hin, _⟩ := tru_only h hz (t := t) (by rw [e]; simp)
    exact absurd hin (hno r hr)
theorem op_zero (h : Fit c l) (hz : seenN c 1 l = 0) : opT c l = 0 := by
  unfold opT
  rw [if_neg]
  intro e
  have := tru_zero h hz
  rw [List.length_eq_zero_iff.1 e] at this
  cases this
theorem row_or (c : Crt) (l : List Lk) : (∃ r, r < c.rows.length ∧ InRow l r) ∨ ∀ r, r < c.rows.length → ¬ InRow l r := by
  by_cases hx : ∃ r, r < c.rows.length ∧ InRow l r
  · exact .inl hx
  · exact .inr fun r hr hin => hx ⟨r, hr, hin⟩
def bdN (c : Crt) (l : List Lk) : Nat := seenN c 1 l
def gdN (c : Crt) (l : List Lk) : Nat := seenN c 0 l
theorem seen_lt (h : Fit c l) (s : Int) : seenN c s l < 2 ^ (crds c).length := by
  rw [crds_len]
  exact seenF_lt h s l.length (Nat.le_refl _)
theorem blE_fit (h : Fit c l) : blE (crds c) (bdN c l : Int) (gdN c l : Int) = if bdN c l = 0 then 4 else if blameN (crds c) (bdN c l) (gdN c l) = 0 then 6 else 0 :=
  blE_of (crds_ok h) (seen_lt h 1) (seen_lt h 0)
theorem bl_row (h : Fit c l) (hz : bdN c l ≠ 0) {r : Nat} (hr : r < c.rows.length) (hin : InRow l r) : blE (crds c) (bdN c l : Int) (gdN c l : Int) = 0 := by
  rw [blE_fit h, if_neg hz, if_neg]
  intro e
  have := (blame_row h hr).2 hin
  rw [show blameN (crds c) (seenN c 1 l) (seenN c 0 l) = 0 from e, Nat.zero_testBit] at this
  cases this
theorem law_zero (h : Fit c l) (hz : bdN c l = 0) : opT c l = 0 ∧ blE (crds c) (bdN c l : Int) (gdN c l : Int) = 4 := ⟨op_zero h hz, by rw [blE_fit h, if_pos hz]⟩
theorem law_and (h : Fit c l) (hz : bdN c l ≠ 0) : blR (crds c) (bdN c l : Int) (gdN c l : Int) &&& (2 ^ c.rows.length - 1) = if opT c l = 0 then (picF (topC c) (truL (topC c) l)).cr else 0 := by
  have hbit : ∀ i, (blameN (crds c) (bdN c l) (gdN c l) &&& (2 ^ c.rows.length - 1)).testBit i = true ↔ i < c.rows.length ∧ InRow l i := fun i => by
    rw [Nat.testBit_and, Bool.and_eq_true, full_bit, decide_eq_true_eq]
    constructor
    · rintro ⟨h1, h2⟩; exact ⟨h2, (blame_row h h2).1 h1⟩
    · rintro ⟨h1, h2⟩; exact ⟨(blame_row h h1).2 h2, h1⟩
  have hR : blE (crds c) (bdN c l : Int) (gdN c l : Int) = 0 → blR (crds c) (bdN c l : Int) (gdN c l : Int) = blameN (crds c) (bdN c l) (gdN c l) := fun e => by
    unfold blR; rw [if_pos e]; rfl
  rcases row_or c l with ⟨r, hr, hin⟩ | hno
  · obtain ⟨h1, h2, _⟩ := op_row h hz hr hin
    rw [hR (bl_row h hz hr hin), if_pos h1, h2]
    refine bit_ext fun i => ?_
    rw [hbit, Nat.testBit_two_pow, decide_eq_true_eq]
    constructor
    · rintro ⟨_, h4⟩; exact in_one hz hin h4
    · intro e; subst e; exact ⟨hr, hin⟩
  · rw [op_none h hz hno, if_neg (by decide)]
    by_cases e : blE (crds c) (bdN c l : Int) (gdN c l : Int) = 0
    · rw [hR e]
      refine zero_iff.2 fun i => ?_
      cases hb : (blameN (crds c) (bdN c l) (gdN c l) &&& (2 ^ c.rows.length - 1)).testBit i with
      | false => rfl
      | true => exact absurd ((hbit i).1 hb).2 (hno i ((hbit i).1 hb).1)
    · unfold blR
      rw [if_neg e, Nat.zero_and]
theorem law_one (h : Fit c l) (hz : bdN c l ≠ 0) (ho : opT c l = 0) : blE (crds c) (bdN c l : Int) (gdN c l : Int) = 0 := by
  rcases row_or c l with ⟨r, hr, hin⟩ | hno
  · exact bl_row h hz hr hin
  · rw [op_none h hz hno] at ho; cases ho
theorem op_06 (c : Crt) (l : List Lk) : opT c l = 0 ∨ opT c l = 6 := by
  unfold opT
  split
  · exact .inr rfl
  · exact .inl rfl
theorem law_two (h : Fit c l) (hz : bdN c l ≠ 0) (hp : bdN c l &&& (bdN c l - 1) ≠ 0) : opT c l = blE (crds c) (bdN c l : Int) (gdN c l : Int) ∧
    (if opT c l = 0 then ((picF (topC c) (truL (topC c) l)).lo, (picF (topC c) (truL (topC c) l)).hi) else (0, 0)) = recS (crds c) (bdN c l : Int) (gdN c l : Int) := by
  have hlt : ∀ i, (blameN (crds c) (bdN c l) (gdN c l)).testBit i = true → i < c.rows.length ∧ InRow l i := fun i hi => by
    rcases Nat.lt_or_ge i c.rows.length with h1 | h1
    · exact ⟨h1, (blame_row h h1).1 hi⟩
    · exfalso
      have hall := blame_place h h1 hi
      refine hp ?_
      have : bdN c l = 2 ^ i := by
        obtain ⟨j, hj⟩ := Nat.exists_testBit_of_ne_zero hz
        have hji := hall j hj
        subst hji
        refine bit_ext fun x => ?_
        rw [Nat.testBit_two_pow, decide_eq_true_eq]
        constructor
        · intro hx; exact (hall x hx).symm
        · intro e; subst e; exact hj
      rw [this, Nat.and_two_pow_sub_one_eq_mod, Nat.mod_self]
  rcases row_or c l with ⟨r, hr, hin⟩ | hno
  · obtain ⟨h1, _, h3, h4⟩ := op_row h hz hr hin
    have hE := bl_row h hz hr hin
    have hB : blameN (crds c) (bdN c l) (gdN c l) = 2 ^ r := by
      refine bit_ext fun i => ?_
      rw [Nat.testBit_two_pow, decide_eq_true_eq]
      constructor
      · intro hi; exact in_one hz hin (hlt i hi).2
      · intro e; subst e; exact (blame_row h hr).2 hin
    have hbR : blR (crds c) (bdN c l : Int) (gdN c l : Int) = 2 ^ r := by unfold blR; rw [if_pos hE]; exact hB
    refine ⟨by rw [h1, hE], ?_⟩
    rw [if_pos h1, h3, h4]
    have hr32 : r < 32 := by have := (fit_c h).1.2; omega
    unfold recS spanN
    rw [if_pos hE, hbR, bits_pow r hr32]
    show _ = (cntN (crds c) r, cntN (crds c) r)
    rw [cnt_of h hr]
  · have hB : blameN (crds c) (bdN c l) (gdN c l) = 0 := zero_iff.2 fun i => by
      cases hb : (blameN (crds c) (bdN c l) (gdN c l)).testBit i with
      | false => rfl
      | true => exact absurd (hlt i hb).2 (hno i (hlt i hb).1)
    have hE : blE (crds c) (bdN c l : Int) (gdN c l : Int) = 6 := by rw [blE_fit h, if_neg hz, if_pos hB]
    rw [op_none h hz hno, hE]
    refine ⟨rfl, ?_⟩
    rw [if_neg (by decide)]
    unfold recS
    rw [hE, if_neg (by decide)]
end
end Go.Proofs.YtofenmailjdehaaDoor
