/-
  The plain law of SackOrder: what is told hangs on the weights alone; narrower spans. No program in sight.
-/
import Derived.Test.YtmcejcidbekpkaaSkT
set_option linter.unusedVariables false
set_option linter.unusedSimpArgs false
set_option linter.unusedSectionVars false
namespace Go.Proofs.Ytmcejcidbekpkaa
open Go.AF

/-! ### Only the weights matter -/
structure SameW (l : List Sk) (b b' : List Tk) : Prop where
  v : validB l b = validB l b'
  lo : ∀ i, i < l.length → wLo b i = wLo b' i
  hi : ∀ i, i < l.length → wHi b i = wHi b' i
section
variable {l : List Sk} {b b' : List Tk} (h : SameW l b b')
include h
theorem SameW.sLo (f : Int → Int → Int → Int) : sLo f l b = sLo f l b' := isum_congr _ fun i hi => by rw [h.lo i hi, h.hi i hi]
theorem SameW.sHi (f : Int → Int → Int → Int) : sHi f l b = sHi f l b' := isum_congr _ fun i hi => by rw [h.lo i hi, h.hi i hi]
theorem SameW.bLo (n : Int) : bLo l b n = bLo l b' n := h.sLo (overF n)
theorem SameW.bHi (n : Int) : bHi l b n = bHi l b' n := h.sHi (overF n)
theorem SameW.okE : okE l b = okE l b' := by unfold Proofs.Ytmcejcidbekpkaa.okE; rw [h.v]
theorem SameW.wL (k : Int) : wL l b k = wL l b' k := by
  have e : isum (partLo k l b) l.length = isum (partLo k l b') l.length := isum_congr _ fun i hi => by unfold partLo; rw [h.lo i hi]
  unfold Proofs.Ytmcejcidbekpkaa.wL; rw [h.v, e]
theorem SameW.wH (k : Int) : wH l b k = wH l b' k := by
  have e : isum (partHi k l b) l.length = isum (partHi k l b') l.length := isum_congr _ fun i hi => by unfold partHi; rw [h.hi i hi]
  unfold Proofs.Ytmcejcidbekpkaa.wH; rw [h.v, e]
theorem SameW.scLo : ∀ n, scLo l b n = scLo l b' n
  | 0 => rfl
  | n + 1 => by simp only [Proofs.Ytmcejcidbekpkaa.scLo]; rw [h.bLo, SameW.scLo n]
theorem SameW.scHi : ∀ n, scHi l b n = scHi l b' n
  | 0 => rfl
  | n + 1 => by simp only [Proofs.Ytmcejcidbekpkaa.scHi]; rw [h.bHi, SameW.scHi n]
theorem SameW.shL : shL l b = shL l b' := by unfold Proofs.Ytmcejcidbekpkaa.shL; rw [h.v, h.scLo]
theorem SameW.shH : shH l b = shH l b' := by unfold Proofs.Ytmcejcidbekpkaa.shH; rw [h.v, h.scHi]
theorem SameW.kLo (n : Int) : kLo l b n = kLo l b' n := isum_congr _ fun i hi => by unfold lackLo; rw [h.lo i hi, h.hi i hi]
theorem SameW.kHi (n : Int) : kHi l b n = kHi l b' n := isum_congr _ fun i hi => by unfold lackHi; rw [h.lo i hi, h.hi i hi]
theorem SameW.waE (w : Sp) : waE l b w = waE l b' w := by unfold Proofs.Ytmcejcidbekpkaa.waE waterHi waterLo; rw [h.v, h.kLo, h.kHi]
theorem SameW.waL (w : Sp) : waL l b w = waL l b' w := by unfold Proofs.Ytmcejcidbekpkaa.waL waterLo; rw [h.waE, h.kHi]
theorem SameW.waH (w : Sp) : waH l b w = waH l b' w := by unfold Proofs.Ytmcejcidbekpkaa.waH waterHi; rw [h.waE, h.kLo]
end

/-! ### The order of takes -/
def turnL (b : List Tk) (t n : Nat) : List Tk := (List.range n).map fun i => bAt b ((i + t) % b.length)
theorem turnL_succ (b : List Tk) (t n : Nat) : turnL b t (n + 1) = turnL b t n ++ [bAt b ((n + t) % b.length)] := by simp [turnL, List.range_succ]
theorem turnL_length (b : List Tk) (t n : Nat) : (turnL b t n).length = n := by simp [turnL]
theorem isum_list {α : Type} (f : α → Int) : ∀ (n : Nat) (g : Nat → α), (((List.range n).map g).map f).sum = isum (fun i => f (g i)) n
  | 0, g => rfl
  | n + 1, g => by
    rw [List.range_succ, List.map_append, List.map_append, List.sum_append, isum_list f n g]
    simp [isum]
theorem isum_shift (h : Nat → Int) : ∀ n, isum (fun i => h (i + 1)) n = isum h n - h 0 + h n
  | 0 => by simp only [isum]; omega
  | n + 1 => by simp only [isum]; rw [isum_shift h n]; omega
theorem isum_turned (g : Nat → Int) (n : Nat) : ∀ t, isum (fun i => g ((i + t) % n)) n = isum g n
  | 0 => isum_congr n fun i hi => by simp [Nat.mod_eq_of_lt hi]
  | t + 1 => by
    have h1 := isum_shift (fun j => g ((j + t) % n)) n
    have h2 := isum_turned g n t
    have e : isum (fun i => g ((i + (t + 1)) % n)) n = isum (fun i => (fun j => g ((j + t) % n)) (i + 1)) n := isum_congr n fun i _ => by
      show g ((i + (t + 1)) % n) = g ((i + 1 + t) % n)
      rw [show i + (t + 1) = i + 1 + t by omega]
    rw [e, h1, h2]
    simp only [Nat.zero_add]
    rw [Nat.add_comm n t, Nat.add_mod_right]
    omega
theorem psum_isum (f : Tk → Int) (b : List Tk) : ∀ n, n ≤ b.length → psum f b n = isum (fun i => f (bAt b i)) n
  | 0, _ => psum_zero f b
  | n + 1, h => by
    rw [psum_succ f b n h, psum_isum f b n (by omega)]
    simp only [isum]
    rw [bAt_get (by omega)]
theorem psum_turn (f : Tk → Int) (b : List Tk) (t : Nat) : psum f (turnL b t b.length) (turnL b t b.length).length = psum f b b.length := by
  rw [psum_all, psum_isum f b b.length (Nat.le_refl _)]
  unfold turnL
  rw [isum_list f b.length]
  exact isum_turned (fun i => f (bAt b i)) b.length t
theorem mem_turn {b : List Tk} {t : Nat} (hb : 0 < b.length) {x : Tk} (h : x ∈ turnL b t b.length) : x ∈ b := by
  unfold turnL at h
  obtain ⟨i, _, rfl⟩ := List.mem_map.1 h
  have := Nat.mod_lt (i + t) hb
  rw [bAt_get this]
  exact List.getElem_mem _
theorem valid_iff {l : List Sk} {b : List Tk} : validB l b = true ↔ areSacksB l = true ∧ (1 ≤ b.length ∧ b.length ≤ 8) ∧ ∀ t ∈ b, (0 ≤ t.s ∧ t.s < l.length) ∧ (1 ≤ t.m.lo ∧ t.m.lo ≤ t.m.hi ∧ t.m.hi ≤ 100000) := by
  unfold validB isBatchB
  simp only [Bool.and_eq_true, decide_eq_true_eq, Bool.not_eq_true', List.any_eq_false]
  constructor
  · rintro ⟨h1, ⟨h2, h3⟩, h4⟩
    refine ⟨h1, by omega, fun t ht => ?_⟩
    have := h4 t ht
    simp [Tk.bad, Sp.ok] at this
    omega
  · rintro ⟨h1, h2, h3⟩
    refine ⟨h1, ⟨by omega, by omega⟩, fun t ht => ?_⟩
    have := h3 t ht
    simp [Tk.bad, Sp.ok]
    omega
theorem turn_same {l : List Sk} {b : List Tk} (hv : validB l b = true) (t : Nat) : SameW l b (turnL b t b.length) := by
  obtain ⟨h1, h2, h3⟩ := valid_iff.1 hv
  refine ⟨?_, fun i _ => (psum_turn _ b t).symm, fun i _ => (psum_turn _ b t).symm⟩
  rw [hv]
  exact (valid_iff.2 ⟨h1, by rw [turnL_length]; exact h2, fun x hx => h3 x (mem_turn (by omega) hx)⟩).symm

/-! ### Takes out of one sack made one -/
def onesL (b : List Tk) : Nat → List Tk
  | 0 => []
  | n + 1 => if 0 < wLo b n then onesL b n ++ [⟨(n : Int), ⟨wLo b n, wHi b n⟩⟩] else onesL b n
theorem psum_app (f : Tk → Int) (x y : List Tk) : psum f (x ++ y) (x ++ y).length = psum f x x.length + psum f y y.length := by
  rw [psum_all, psum_all, psum_all, List.map_append, List.sum_append]
theorem psum_one (f : Tk → Int) (t : Tk) : psum f [t] [t].length = f t := by rw [psum_all]; simp
theorem onesL_mem {b : List Tk} : ∀ n, ∀ x ∈ onesL b n, ∃ i, i < n ∧ 0 < wLo b i ∧ x = ⟨(i : Int), ⟨wLo b i, wHi b i⟩⟩
  | 0, x, h => by cases h
  | n + 1, x, h => by
    simp only [onesL] at h
    split at h
    · rcases List.mem_append.1 h with h | h
      · obtain ⟨i, h1, h2, h3⟩ := onesL_mem n x h
        exact ⟨i, by omega, h2, h3⟩
      · simp at h
        exact ⟨n, by omega, by assumption, h⟩
    · obtain ⟨i, h1, h2, h3⟩ := onesL_mem n x h
      exact ⟨i, by omega, h2, h3⟩
theorem onesL_len (b : List Tk) : ∀ n, (onesL b n).length ≤ n
  | 0 => Nat.le_refl _
  | n + 1 => by
    have := onesL_len b n
    simp only [onesL]
    split
    · simp; omega
    · omega
theorem onesL_lo (b : List Tk) (k : Nat) : ∀ n, psum (loK (k : Int)) (onesL b n) (onesL b n).length = if k < n ∧ 0 < wLo b k then wLo b k else 0
  | 0 => by simp [onesL, psum_zero]
  | n + 1 => by
    have ih := onesL_lo b k n
    simp only [onesL]
    by_cases h : 0 < wLo b n
    · rw [if_pos h, psum_app, psum_one, ih]
      simp only [loK]
      by_cases e : n = k
      · subst e; simp [h]
      · have e' : ¬ (n : Int) = (k : Int) := by omega
        rw [if_neg e']
        by_cases h2 : k < n
        · simp [h2, show k < n + 1 by omega]
        · simp [h2, show ¬ k < n + 1 by omega]
    · rw [if_neg h, ih]
      by_cases e : n = k
      · subst e; simp [h]
      · by_cases h2 : k < n
        · simp [h2, show k < n + 1 by omega]
        · simp [h2, show ¬ k < n + 1 by omega]
theorem onesL_hi (b : List Tk) (k : Nat) : ∀ n, psum (hiK (k : Int)) (onesL b n) (onesL b n).length = if k < n ∧ 0 < wLo b k then wHi b k else 0
  | 0 => by simp [onesL, psum_zero]
  | n + 1 => by
    have ih := onesL_hi b k n
    simp only [onesL]
    by_cases h : 0 < wLo b n
    · rw [if_pos h, psum_app, psum_one, ih]
      simp only [hiK]
      by_cases e : n = k
      · subst e; simp [h]
      · have e' : ¬ (n : Int) = (k : Int) := by omega
        rw [if_neg e']
        by_cases h2 : k < n
        · simp [h2, show k < n + 1 by omega]
        · simp [h2, show ¬ k < n + 1 by omega]
    · rw [if_neg h, ih]
      by_cases e : n = k
      · subst e; simp [h]
      · by_cases h2 : k < n
        · simp [h2, show k < n + 1 by omega]
        · simp [h2, show ¬ k < n + 1 by omega]
theorem w_zero {l : List Sk} {b : List Tk} (hv : validB l b = true) (k : Nat) (h : ¬ 0 < wLo b k) : wLo b k = 0 ∧ wHi b k = 0 := by
  obtain ⟨_, _, h3⟩ := valid_iff.1 hv
  unfold wLo at h
  have gen : ∀ n, n ≤ b.length → 0 ≤ psum (loK (k : Int)) b n ∧ (psum (loK (k : Int)) b n = 0 → psum (hiK (k : Int)) b n = 0) := by
    intro n
    induction n with
    | zero => intro _; simp [psum_zero]
    | succ n ih =>
      intro hn
      have h1 := ih (by omega)
      have h2 := h3 b[n] (List.getElem_mem _)
      rw [psum_succ _ b n hn, psum_succ _ b n hn]
      simp only [loK, hiK]
      split
      · constructor
        · omega
        · intro h4; omega
      · simpa using h1
  have := gen b.length (Nat.le_refl _)
  unfold wLo wHi
  omega
theorem ones_same {l : List Sk} {b : List Tk} (hv : validB l b = true) (hm : ∀ i, i < l.length → 0 < wLo b i → wHi b i ≤ 100000) (hne : onesL b l.length ≠ []) : SameW l b (onesL b l.length) := by
  obtain ⟨h1, h2, h3⟩ := valid_iff.1 hv
  have okl := okL_of h1
  have okb := okB_of (n := l.length) (b := b) (by unfold validB at hv; simp at hv; exact hv.2)
  refine ⟨?_, fun i hi => ?_, fun i hi => ?_⟩
  · rw [hv]
    refine (valid_iff.2 ⟨h1, ⟨?_, ?_⟩, fun x hx => ?_⟩).symm
    · have := List.length_pos_iff.2 hne; omega
    · have := onesL_len b l.length; have := okl.1; omega
    · obtain ⟨i, k1, k2, rfl⟩ := onesL_mem _ x hx
      have := hm i k1 k2
      have := wLe okb.1 i
      dsimp only
      omega
  · have := onesL_lo b i l.length
    unfold wLo at this ⊢
    rw [this]
    by_cases h : 0 < wLo b i
    · unfold wLo at h; rw [if_pos ⟨hi, h⟩]
    · have h' := h; unfold wLo at h'; rw [if_neg (by omega)]
      exact (w_zero hv i h).1
  · have := onesL_hi b i l.length
    unfold wHi at this ⊢
    rw [this]
    by_cases h : 0 < wLo b i
    · rw [if_pos ⟨hi, h⟩]
    · rw [if_neg (by omega)]
      exact (w_zero hv i h).2

/-! ### A batch cut into two -/
theorem cut_valid {l : List Sk} {b : List Tk} (hv : validB l b = true) {c : Nat} (h1 : 1 ≤ c) (h2 : c < b.length) : validB l (b.take c) = true ∧ validB l (b.drop c) = true := by
  obtain ⟨k1, k2, k3⟩ := valid_iff.1 hv
  exact ⟨valid_iff.2 ⟨k1, by simp; omega, fun t ht => k3 t (List.mem_of_mem_take ht)⟩, valid_iff.2 ⟨k1, by simp; omega, fun t ht => k3 t (List.mem_of_mem_drop ht)⟩⟩
theorem cut_lo (b : List Tk) (c i : Nat) : wLo b i = wLo (b.take c) i + wLo (b.drop c) i := by
  have := psum_app (loK (i : Int)) (b.take c) (b.drop c)
  rw [List.take_append_drop] at this
  exact this
theorem cut_hi (b : List Tk) (c i : Nat) : wHi b i = wHi (b.take c) i + wHi (b.drop c) i := by
  have := psum_app (hiK (i : Int)) (b.take c) (b.drop c)
  rw [List.take_append_drop] at this
  exact this
theorem cut_parts {l : List Sk} {b : List Tk} (hv : validB l b = true) {c : Nat} (h1 : 1 ≤ c) (h2 : c < b.length) (k : Int) :
    (wL l (b.take c) k + wL l (b.drop c) k ≤ wL l b k ∧ wL l b k - 1 ≤ wL l (b.take c) k + wL l (b.drop c) k) ∧ (wH l b k ≤ wH l (b.take c) k + wH l (b.drop c) k ∧ wH l (b.take c) k + wH l (b.drop c) k ≤ wH l b k + 1) := by
  obtain ⟨v1, v2⟩ := cut_valid hv h1 h2
  have e1 : isum (partLo k l b) l.length = isum (partLo k l (b.take c)) l.length + isum (partLo k l (b.drop c)) l.length := by
    rw [← isum_add]
    refine isum_congr _ fun i _ => ?_
    unfold partLo
    rw [cut_lo b c i, Int.add_mul]
  have e2 : isum (partHi k l b) l.length = isum (partHi k l (b.take c)) l.length + isum (partHi k l (b.drop c)) l.length := by
    rw [← isum_add]
    refine isum_congr _ fun i _ => ?_
    unfold partHi
    rw [cut_hi b c i, Int.add_mul]
  unfold wL wH
  rw [if_pos hv, if_pos hv, if_pos v1, if_pos v1, if_pos v2, if_pos v2, e1, e2]
  omega

/-! ### Narrower spans -/
def narrow (s s' : Sk) : Prop := (s.w.lo ≤ s'.w.lo ∧ s'.w.hi ≤ s.w.hi) ∧ (s.c.lo ≤ s'.c.lo ∧ s'.c.hi ≤ s.c.hi) ∧ (s.l.lo ≤ s'.l.lo ∧ s'.l.hi ≤ s.l.hi)
theorem cc_two (s : Sk) (k : Nat) : s.cc k = s.c.lo ∨ s.cc k = s.c.hi := by unfold Sk.cc; split <;> simp
theorem cl_two (s : Sk) (k : Nat) : s.cl k = s.l.lo ∨ s.cl k = s.l.hi := by unfold Sk.cl; split <;> simp
theorem corner_in {s s' : Sk} (h : narrow s s') (hs : okSk s') (k : Nat) : inSk s ⟨s'.cw k, s'.cc k, s'.cl k⟩ := by
  unfold narrow at h
  unfold okSk at hs
  unfold inSk
  have h1 := cw_two s' k
  have h2 := cc_two s' k
  have h3 := cl_two s' k
  dsimp only
  omega
theorem cLo_narrow {f : Int → Int → Int → Int} (hf : Tri f) {s s' : Sk} (h : narrow s s') (hs : okSk s') {lo hi : Int} (h0 : 0 ≤ lo) (h1 : lo ≤ hi) : cLo f s lo hi ≤ cLo f s' lo hi := by
  obtain ⟨k, hk, ek⟩ := mnF_at (fun k => min (lo * f (s'.cw k) (s'.cc k) (s'.cl k)) (hi * f (s'.cw k) (s'.cc k) (s'.cl k))) 8 (by omega)
  have g1 := one_lo hf (corner_in h hs k) h0 (Int.le_refl _) h1
  have g2 := one_lo hf (corner_in h hs k) h0 h1 (Int.le_refl _)
  have e : cLo f s' lo hi = _ := ek
  rw [e]
  dsimp only at g1 g2
  omega
theorem cHi_narrow {f : Int → Int → Int → Int} (hf : Tri f) {s s' : Sk} (h : narrow s s') (hs : okSk s') {lo hi : Int} (h0 : 0 ≤ lo) (h1 : lo ≤ hi) : cHi f s' lo hi ≤ cHi f s lo hi := by
  obtain ⟨k, hk, ek⟩ := mxF_at (fun k => max (lo * f (s'.cw k) (s'.cc k) (s'.cl k)) (hi * f (s'.cw k) (s'.cc k) (s'.cl k))) 8 (by omega)
  have g1 := one_hi hf (corner_in h hs k) h0 (Int.le_refl _) h1
  have g2 := one_hi hf (corner_in h hs k) h0 h1 (Int.le_refl _)
  have e : cHi f s' lo hi = _ := ek
  rw [e]
  dsimp only at g1 g2
  omega
structure Less (l l' : List Sk) : Prop where
  len : l'.length = l.length
  ok : areSacksB l' = true
  nar : ∀ i, i < l.length → narrow (l[i]?.getD zeroSk) (l'[i]?.getD zeroSk)
section
variable {l l' : List Sk} {b : List Tk} (hv : validB l b = true) (L : Less l l')
include hv L
theorem Less.v : validB l' b = true := by
  obtain ⟨k1, k2, k3⟩ := valid_iff.1 hv
  exact valid_iff.2 ⟨L.ok, k2, fun t ht => by rw [L.len]; exact k3 t ht⟩
theorem Less.sLo {f : Int → Int → Int → Int} (hf : Tri f) : sLo f l b ≤ sLo f l' b := by
  have okb := okB_of (n := l.length) (b := b) (by unfold validB at hv; simp at hv; exact hv.2)
  unfold Proofs.Ytmcejcidbekpkaa.sLo
  rw [L.len]
  exact isum_mono _ fun i hi => cLo_narrow hf (L.nar i hi) ((okL_of L.ok).get (by rw [L.len]; exact hi)) (wB okb.1 i).1.1 (wLe okb.1 i)
theorem Less.sHi {f : Int → Int → Int → Int} (hf : Tri f) : sHi f l' b ≤ sHi f l b := by
  have okb := okB_of (n := l.length) (b := b) (by unfold validB at hv; simp at hv; exact hv.2)
  unfold Proofs.Ytmcejcidbekpkaa.sHi
  rw [L.len]
  exact isum_mono _ fun i hi => cHi_narrow hf (L.nar i hi) ((okL_of L.ok).get (by rw [L.len]; exact hi)) (wB okb.1 i).1.1 (wLe okb.1 i)
theorem Less.parts (k : Int) : wL l b k ≤ wL l' b k ∧ wH l' b k ≤ wH l b k := by
  have okb := okB_of (n := l.length) (b := b) (by unfold validB at hv; simp at hv; exact hv.2)
  have okl := okL_of (valid_iff.1 hv).1
  have h1 := L.sLo hv (Tri.of k)
  have h2 := L.sHi hv (Tri.of k)
  rw [sLo_part okl okb.1, sLo_part (okL_of L.ok) okb.1] at h1
  rw [sHi_part okl okb.1, sHi_part (okL_of L.ok) okb.1] at h2
  unfold wL wH
  rw [if_pos hv, if_pos hv, if_pos (L.v hv), if_pos (L.v hv)]
  omega
theorem Less.share : shL l b ≤ shL l' b ∧ shH l' b ≤ shH l b := by
  have okb := okB_of (n := l.length) (b := b) (by unfold validB at hv; simp at hv; exact hv.2)
  have okl := okL_of (valid_iff.1 hv).1
  have okl' := okL_of L.ok
  have hsc := sc_B okl okb.1
  have g1 := (scLo_ge okl okb.1 hsc.1).1 (Int.le_refl _)
  have g2 := (scHi_le okl okb.1 hsc.2).1 (Int.le_refl _)
  have key1 : ∀ x, bLo l b x ≤ bLo l' b x := fun x => L.sLo (f := overF x) hv (Tri.over x)
  have key2 : ∀ x, bHi l' b x ≤ bHi l b x := fun x => L.sHi (f := overF x) hv (Tri.over x)
  have s1 : ∀ x, 0 ≤ x ∧ x ≤ 1000 → 0 ≤ bLo l b x → x ≤ scLo l' b 1001 := fun x hx h => (scLo_ge okl' okb.1 hx).2 (Int.le_trans h (key1 x))
  have s2 : ∀ x, 0 ≤ x ∧ x ≤ 1000 → bHi l b x ≤ 0 → scHi l' b 1001 ≤ x := fun x hx h => (scHi_le okl' okb.1 hx).2 (Int.le_trans (key2 x) h)
  unfold shL shH
  rw [if_pos hv, if_pos hv, if_pos (L.v hv), if_pos (L.v hv)]
  exact ⟨s1 _ hsc.1 g1, s2 _ hsc.2 g2⟩
theorem Less.water {w : Sp} (hE : waE l b w = 0) : waE l' b w = 0 ∧ waL l' b w ≤ waL l b w ∧ waH l b w ≤ waH l' b w := by
  have okb := okB_of (n := l.length) (b := b) (by unfold validB at hv; simp at hv; exact hv.2)
  have okl := okL_of (valid_iff.1 hv).1
  have okl' := okL_of L.ok
  have hw : w.ok 0 999 = true ∧ ¬ waterHi l b w < waterLo l b w := by
    rw [waE, if_pos hv] at hE
    by_cases g1 : w.ok 0 999 = true
    · rw [if_pos g1] at hE
      by_cases g2 : waterHi l b w < waterLo l b w
      · rw [if_pos g2] at hE; omega
      · exact ⟨g1, g2⟩
    · rw [if_neg g1] at hE; omega
  have hw2 : 0 ≤ w.lo ∧ w.lo ≤ w.hi ∧ w.hi ≤ 999 := by have := hw.1; simp [Sp.ok] at this; omega
  have h1 := L.sLo hv (Tri.lack w.hi)
  have h2 := L.sHi hv (Tri.lack w.lo)
  rw [sLo_lack okl okb.1, sLo_lack okl' okb.1] at h1
  rw [sHi_lack okl okb.1, sHi_lack okl' okb.1] at h2
  have d1 : kLo l b w.hi / (1000 - w.hi) ≤ kLo l' b w.hi / (1000 - w.hi) := Int.ediv_le_ediv (by omega) h1
  have d2 : (0 - kHi l b w.lo) / (1000 - w.lo) ≤ (0 - kHi l' b w.lo) / (1000 - w.lo) := Int.ediv_le_ediv (by omega) (by unfold kHi; omega)
  have e1 : waterLo l' b w ≤ waterLo l b w := by unfold waterLo; omega
  have e2 : waterHi l b w ≤ waterHi l' b w := by unfold waterHi; omega
  have hE' : waE l' b w = 0 := by
    unfold waE
    rw [if_pos (L.v hv), if_pos hw.1, if_neg (by omega)]
  unfold waL waH
  rw [if_pos hE, if_pos hE, if_pos hE', if_pos hE']
  exact ⟨hE', e1, e2⟩
end
/-- The sacks, one of them narrower. -/
theorem less_of {l : List Sk} (hA : areSacksB l = true) {k : Nat} (hk : k < l.length) {s' : Sk} (h1 : narrow l[k] s') (h2 : s'.w.lo ≤ s'.w.hi ∧ s'.c.lo ≤ s'.c.hi ∧ s'.l.lo ≤ s'.l.hi) : Less l (l.set k s') := by
  have okl := okL_of hA
  have hs := okl.2 l[k] (List.getElem_mem _)
  unfold okSk at hs
  unfold narrow at h1
  refine ⟨by simp, ?_, fun i hi => ?_⟩
  · unfold areSacksB
    simp only [Bool.and_eq_true, decide_eq_true_eq, Bool.not_eq_true', List.any_eq_false, List.length_set]
    refine ⟨by have := okl.1; omega, fun s hs' => ?_⟩
    rcases List.mem_or_eq_of_mem_set hs' with h | h
    · have := okl.2 s h
      unfold okSk at this
      simp [Sk.bad, Sp.ok]
      omega
    · subst h
      simp [Sk.bad, Sp.ok]
      omega
  · by_cases e : k = i
    · subst e
      rw [List.getElem?_set_self hk, List.getElem?_eq_getElem hk]
      exact h1
    · rw [List.getElem?_set_ne e]
      unfold narrow
      omega
end Go.Proofs.Ytmcejcidbekpkaa
