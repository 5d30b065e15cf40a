/-
  The plain law of SackMixed: what is within a share's span is what a mixture's numbers say. No program in sight.
-/
import Derived.Test.YtmcejcidbekpkaaSkM
set_option linter.unusedVariables false
set_option linter.unusedSimpArgs false
namespace Go.Proofs.Ytmcejcidbekpkaa
open Go.AF

theorem bHi_1000 {l : List Sk} {b : List Tk} (hl : okL l) (hb : okB b) : bHi l b 1000 ≤ 0 := by
  have h : bHi l b 1000 ≤ isum (fun _ => 0) l.length := isum_mono _ fun i hi => by
    rw [beyHi_c]
    have h1 := cHi_mono (f := overF 1000) (g := fun _ _ _ => 0) (s := l[i]?.getD zeroSk) (lo := wLo b i) (hi := wHi b i) ⟨(wB hb i).1.1, wLe hb i⟩ (fun k => by
      have := bakedB ((hl.get hi).corner k)
      simp only [overF, leadF]; omega)
    have h2 : cHi (fun _ _ _ => 0) (l[i]?.getD zeroSk) (wLo b i) (wHi b i) = 0 := by
      unfold cHi
      simp only [Int.mul_zero, Int.max_self]
      exact mxF_const 0 8 (by omega)
    omega
  rw [isum_zero _ (fun _ _ => rfl)] at h
  exact h
theorem scLo_ge {l : List Sk} {b : List Tk} (hl : okL l) (hb : okB b) {x : Int} (hx : 0 ≤ x ∧ x ≤ 1000) : x ≤ scLo l b 1001 ↔ 0 ≤ bLo l b x := by
  obtain ⟨r, q, ⟨r0, r1, r2⟩, _, er, _⟩ := share_cuts hl hb
  obtain ⟨n, rfl⟩ : ∃ n : Nat, x = n := ⟨x.toNat, by omega⟩
  rw [er]
  rcases Nat.lt_or_ge n r with h | h
  · have := r1 n h
    simp at this
    exact ⟨fun _ => this, fun _ => by omega⟩
  · have := r2 n h (by omega)
    simp at this
    constructor
    · intro _; omega
    · intro _; omega
theorem scHi_le {l : List Sk} {b : List Tk} (hl : okL l) (hb : okB b) {x : Int} (hx : 0 ≤ x ∧ x ≤ 1000) : scHi l b 1001 ≤ x ↔ bHi l b x ≤ 0 := by
  obtain ⟨r, q, _, ⟨q0, q1, q2⟩, _, eq⟩ := share_cuts hl hb
  obtain ⟨n, rfl⟩ : ∃ n : Nat, x = n := ⟨x.toNat, by omega⟩
  rw [eq]
  rcases Nat.lt_or_ge n q with h | h
  · have := q1 n h
    simp at this
    constructor
    · intro _; omega
    · intro _; omega
  · rcases Nat.lt_or_ge n 1000 with h2 | h2
    · have := q2 n h h2
      simp at this
      exact ⟨fun _ => this, fun _ => by omega⟩
    · obtain rfl : n = 1000 := by omega
      exact ⟨fun _ => bHi_1000 hl hb, fun _ => by omega⟩
theorem sc_B {l : List Sk} {b : List Tk} (hl : okL l) (hb : okB b) : (0 ≤ scLo l b 1001 ∧ scLo l b 1001 ≤ 1000) ∧ (0 ≤ scHi l b 1001 ∧ scHi l b 1001 ≤ 1000) := by
  obtain ⟨r, q, ⟨r0, r1, r2⟩, ⟨q0, q1, q2⟩, er, eq⟩ := share_cuts hl hb
  have h := (scLo_ge hl hb (x := 0) (by omega)).2 (bLo_zero hl hb)
  rw [er] at h
  rw [er, eq]
  omega
def withinB (l : List Sk) (i j t : Int) (w : Sp) (n : Int) : Bool := decide (1 ≤ n) && decide (n < t) && mixOk l i j t w n.toNat
theorem good_of {l : List Sk} {i j t : Int} {w : Sp} (h : mixGood l i j t w = true) : (0 ≤ i ∧ i ≤ (l.length : Int) - 1) ∧ (0 ≤ j ∧ j ≤ (l.length : Int) - 1) ∧ i ≠ j ∧ (2 ≤ t ∧ t ≤ 100000) ∧ (0 ≤ w.lo ∧ w.lo ≤ w.hi ∧ w.hi ≤ 1000) := by
  simp [mixGood, Sp.ok] at h
  omega
theorem valid_b2 {l : List Sk} {i j t : Int} {w : Sp} (hA : areSacksB l = true) (hG : mixGood l i j t w = true) (n : Int) : validB l (b2 i j t n) = (decide (1 ≤ n) && decide (n < t)) := by
  obtain ⟨h1, h2, h3, h4, h5⟩ := good_of hG
  have e1 : Tk.bad l.length ⟨i, ⟨n, n⟩⟩ = !(decide (1 ≤ n) && decide (n ≤ 100000)) := by
    simp [Tk.bad, Sp.ok, h1.1, h1.2]
  have e2 : Tk.bad l.length ⟨j, ⟨t - n, t - n⟩⟩ = !(decide (1 ≤ t - n) && decide (t - n ≤ 100000)) := by
    simp [Tk.bad, Sp.ok, h2.1, h2.2]
  unfold validB isBatchB b2
  rw [hA]
  simp only [List.any_cons, List.any_nil, e1, e2, List.length_cons, List.length_nil]
  rw [Bool.eq_iff_iff]
  simp
  omega
theorem within_eq {l : List Sk} {i j t : Int} {w : Sp} (hA : areSacksB l = true) (hG : mixGood l i j t w = true) (n : Int) :
    (decide (okE l (b2 i j t n) = 0) && decide (w.lo ≤ shL l (b2 i j t n)) && decide (shH l (b2 i j t n) ≤ w.hi)) = withinB l i j t w n := by
  have hv := valid_b2 hA hG n
  obtain ⟨h1, h2, h3, h4, h5⟩ := good_of hG
  by_cases hn : 1 ≤ n ∧ n < t
  · have hv1 : validB l (b2 i j t n) = true := by rw [hv]; simp [hn.1, hn.2]
    have okl := okL_of hA
    have okb := okB2 (i := i) (j := j) (show 0 ≤ n by omega) (show n ≤ t by omega) h4.2
    have g1 := scLo_ge okl okb (x := w.lo) (by omega)
    have g2 := scHi_le okl okb (x := w.hi) (by omega)
    have en : ((n.toNat : Nat) : Int) = n := by omega
    unfold withinB mixOk okE shL shH
    rw [en]
    simp only [hv1, if_true, hn.1, hn.2, decide_true, Bool.true_and]
    simp only [g1, g2]
  · have hv1 : validB l (b2 i j t n) = false := by rw [hv]; simp; omega
    unfold withinB okE
    simp only [hv1]
    simp
    intro h; omega
theorem mix_iff {s1 s2 : Sk} {w : Sp} {t r p q : Nat} (ht : 2 ≤ t) (h : MixCuts (marg s1 s2 t w) t r) (h0 : 0 ≤ marg s1 s2 t w ((r : Int) + 1))
    (p0 : p ≤ r) (p1 : ∀ i, i < p → decide (0 ≤ marg s1 s2 t w ((i : Int) + 1)) = false) (p2 : ∀ i, p ≤ i → i < r → decide (0 ≤ marg s1 s2 t w ((i : Int) + 1)) = true)
    (q0 : q ≤ t - 2 - r) (q1 : ∀ i, i < q → decide (marg s1 s2 t w ((r : Int) + 2 + i) < 0) = false) (q2 : ∀ i, q ≤ i → i < t - 2 - r → decide (marg s1 s2 t w ((r : Int) + 2 + i) < 0) = true) :
    ∀ k : Nat, 1 ≤ k → k ≤ t - 1 → (decide (0 ≤ marg s1 s2 t w (k : Int)) = true ↔ 1 + p ≤ k ∧ k ≤ 1 + r + q) := by
  have hr := h.r_le
  intro k h1 h2
  obtain ⟨k, rfl⟩ : ∃ k', k = k' + 1 := ⟨k - 1, by omega⟩
  have e : ((k + 1 : Nat) : Int) = k + 1 := by omega
  simp only [e, decide_eq_true_eq]
  rcases Nat.lt_or_ge k p with h3 | h3
  · have := p1 k h3
    simp at this
    constructor
    · intro h4; omega
    · intro h4; omega
  · rcases Nat.lt_or_ge k r with h4 | h4
    · have := p2 k h3 h4
      simp at this
      constructor
      · intro _; omega
      · intro _; omega
    · rcases Nat.lt_or_ge r k with h5 | h5
      · have e2 : (k : Int) + 1 = (r : Int) + 2 + ((k - r - 1 : Nat) : Int) := by omega
        rcases Nat.lt_or_ge (k - r - 1) q with h6 | h6
        · have := q1 _ h6
          simp at this
          rw [← e2] at this
          constructor
          · intro _; omega
          · intro _; omega
        · have := q2 _ h6 (by omega)
          simp at this
          rw [← e2] at this
          constructor
          · intro _; omega
          · intro _; omega
      · obtain rfl : k = r := by omega
        constructor
        · intro _; omega
        · intro _; omega
theorem mix_facts {l : List Sk} {i j t : Int} {w : Sp} (hA : areSacksB l = true) (hG : mixGood l i j t w = true) :
    (mixE l i j t w = 4 ∧ ∀ k : Nat, 1 ≤ k → (k : Int) < t → mixOk l i j t w k = false) ∨
    (mixE l i j t w = 0 ∧ ∃ a c : Nat, mixL l i j t w = a ∧ mixH l i j t w = c ∧ 1 ≤ a ∧ a ≤ c ∧ (c : Int) < t ∧ ∀ k : Nat, 1 ≤ k → (k : Int) < t → (mixOk l i j t w k = true ↔ a ≤ k ∧ k ≤ c)) := by
  obtain ⟨gi, gj, hne, gt, hw⟩ := good_of hG
  have okl := okL_of hA
  obtain ⟨tn, rfl⟩ : ∃ n : Nat, t = n := ⟨t.toNat, by omega⟩
  have gi2 : i.toNat < l.length := by omega
  have gj2 : j.toNat < l.length := by omega
  have e1 : l[i.toNat]?.getD zeroSk = l[i.toNat] := by rw [List.getElem?_eq_getElem gi2, Option.getD_some]
  have e2 : l[j.toNat]?.getD zeroSk = l[j.toNat] := by rw [List.getElem?_eq_getElem gj2, Option.getD_some]
  have ht2 : 2 ≤ tn := by omega
  have ok : ∀ k : Nat, (k : Int) < tn → mixOk l i j tn w k = decide (0 ≤ marg l[i.toNat] l[j.toNat] tn w k) := fun k hk => by
    rw [mixOk_marg (by omega) (by omega) hne (by omega), e1, e2]
  obtain ⟨r, hr⟩ := mix_cut l[i.toNat] l[j.toNat] w tn ht2
  have hr2 := hr.r_le
  by_cases hm : marg l[i.toNat] l[j.toNat] tn w ((r : Int) + 1) < 0
  · left
    have hR := mix_none ht2 hr hm
    have hS : mixS (mixOk l i j tn w) (((tn : Int) - 1).toNat) = none := by
      rw [← hR, show ((tn : Int) - 1).toNat = tn - 1 by omega]
      exact mixS_congr _ fun k h1 h2 => ok k (by omega)
    have hS' : mixS (mixOk l i j tn w) (tn - 1) = none := by rw [← hS, show ((tn : Int) - 1).toNat = tn - 1 by omega]
    refine ⟨by simp [mixE, hA, hG, hS'], fun k h1 h2 => ?_⟩
    rw [ok k h2]
    obtain ⟨k, rfl⟩ : ∃ k', k = k' + 1 := ⟨k - 1, by omega⟩
    have e : ((k + 1 : Nat) : Int) = k + 1 := by omega
    simp only [e, decide_eq_false_iff_not]
    rcases Nat.le_total k r with h3 | h3
    · have := hr.up k r h3 (Nat.le_refl _); omega
    · have := hr.down ht2 r k (Nat.le_refl _) h3 (by omega); omega
  · right
    rw [Int.not_lt] at hm
    obtain ⟨p, p0, p1, p2⟩ := mix_low hr
    obtain ⟨q, q0, q1, q2⟩ := mix_high ht2 hr
    have hR := mix_some ht2 hr hm p0 p1 p2 q0 q1 q2
    have hS : mixS (mixOk l i j tn w) (((tn : Int) - 1).toNat) = some (1 + (p : Int), 1 + (r : Int) + q) := by
      rw [← hR, show ((tn : Int) - 1).toNat = tn - 1 by omega]
      exact mixS_congr _ fun k h1 h2 => ok k (by omega)
    have hS' : mixS (mixOk l i j tn w) (tn - 1) = some (1 + (p : Int), 1 + (r : Int) + q) := by rw [← hS, show ((tn : Int) - 1).toNat = tn - 1 by omega]
    have hE : mixE l i j tn w = 0 := by simp [mixE, hA, hG, hS']
    refine ⟨hE, 1 + p, 1 + r + q, ?_, ?_, by omega, by omega, by omega, fun k h1 h2 => ?_⟩
    · simp [mixL, hE, hS']
    · simp [mixH, hE, hS']
    · rw [ok k h2]
      exact mix_iff ht2 hr hm p0 p1 p2 q0 q1 q2 k h1 (by omega)
theorem mix_bad {l : List Sk} {i j t : Int} {w : Sp} (h : mixE l i j t w = 1 ∨ mixE l i j t w = 2) : mixL l i j t w = 0 ∧ mixH l i j t w = 0 ∧ (decide (mixE l i j t w = 1) == !areSacksB l) = true := by
  have hne : ¬ mixE l i j t w = 0 := by omega
  refine ⟨by simp [mixL, hne], by simp [mixH, hne], ?_⟩
  have h' := h
  unfold mixE at h'
  cases hA : areSacksB l
  · simp [mixE, hA]
  · cases hG : mixGood l i j t w
    · simp [mixE, hA, hG]
    · exfalso
      rw [hA, hG] at h'
      simp only [if_true] at h'
      split at h' <;> omega
theorem mix_good {l : List Sk} {i j t : Int} {w : Sp} (h1 : ¬ mixE l i j t w = 1) (h2 : ¬ mixE l i j t w = 2) : areSacksB l = true ∧ mixGood l i j t w = true := by
  unfold mixE at h1 h2
  cases hA : areSacksB l
  · rw [hA] at h1; exact absurd rfl h1
  · rw [hA] at h1 h2
    cases hG : mixGood l i j t w
    · rw [hG] at h2; exact absurd rfl h2
    · exact ⟨rfl, rfl⟩
theorem wi_in {l : List Sk} {i j t : Int} {w : Sp} {a c : Nat} (h1 : 1 ≤ a) (h2 : a ≤ c) (h3 : (c : Int) < t) (h4 : ∀ k : Nat, 1 ≤ k → (k : Int) < t → (mixOk l i j t w k = true ↔ a ≤ k ∧ k ≤ c)) {n : Int} (hn : 1 ≤ n) (ht : n < t) :
    withinB l i j t w n = (decide ((a : Int) ≤ n) && decide (n ≤ (c : Int))) := by
  have h := h4 n.toNat (by omega) (by omega)
  unfold withinB
  rw [Bool.eq_iff_iff]
  simp only [Bool.and_eq_true, decide_eq_true_eq, h]
  omega
theorem wi_out {l : List Sk} {i j t : Int} {w : Sp} {a c : Nat} (h1 : 1 ≤ a) (h2 : a ≤ c) (h3 : (c : Int) < t) (h4 : ∀ k : Nat, 1 ≤ k → (k : Int) < t → (mixOk l i j t w k = true ↔ a ≤ k ∧ k ≤ c)) {n : Int} (hn : n < a ∨ (c : Int) < n) :
    withinB l i j t w n = false := by
  by_cases h : 1 ≤ n ∧ n < t
  · rw [wi_in h1 h2 h3 h4 h.1 h.2]
    simp
    omega
  · unfold withinB
    simp
    intro h5 h6
    omega
theorem u32_of {x : List PV} (h : TyL [.leaf (.int .u32)] x) : ∃ n : Int, x = [.int .u32 n] ∧ (0 ≤ n ∧ n ≤ 4294967295) := by
  cases h with
  | cons _ _ y ys h1 h2 =>
    cases h2
    cases h1 with
    | int _ n hw =>
      refine ⟨n, rfl, ?_⟩
      simp only [Lit.wf, Bool.and_eq_true, decide_eq_true_eq] at hw
      have e1 : IntKind.u32.min = 0 := by decide
      have e2 : IntKind.u32.max = 4294967295 := by decide
      omega
end Go.Proofs.Ytmcejcidbekpkaa
