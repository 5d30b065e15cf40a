/-
  The plain law of SackEnds: both ends are reached by corners, and none is beyond. No program in sight.
-/
import Derived.Test.YtmcejcidbekpkaaSkO
set_option linter.unusedVariables false
set_option linter.unusedSimpArgs false
set_option linter.unusedSectionVars false
namespace Go.Proofs.Ytmcejcidbekpkaa
open Go.AF

/-! ### Sharp sacks, sharp takes -/
def sharpS (s : Sk) (k : Nat) : Sk := ⟨⟨s.cw k, s.cw k⟩, ⟨s.cc k, s.cc k⟩, ⟨s.cl k, s.cl k⟩⟩
def bitK (bits i : Nat) : Nat := bits / 2 ^ (3 * i) &&& 7
def sharpL (l : List Sk) (bits n : Nat) : List Sk := (List.range n).map fun i => sharpS (l[i]?.getD zeroSk) (bitK bits i)
theorem sharpL_succ (l : List Sk) (bits n : Nat) : sharpL l bits (n + 1) = sharpL l bits n ++ [sharpS (l[n]?.getD zeroSk) (bitK bits n)] := by simp [sharpL, List.range_succ]
theorem sharpL_length (l : List Sk) (bits n : Nat) : (sharpL l bits n).length = n := by simp [sharpL]
theorem sharpL_get (l : List Sk) (bits n : Nat) {i : Nat} (h : i < n) : (sharpL l bits n)[i]?.getD zeroSk = sharpS (l[i]?.getD zeroSk) (bitK bits i) := by simp [sharpL, h]
def bitT (set i : Nat) : Nat := set / 2 ^ i &&& 1
def sharpT (t : Tk) (h : Nat) : Tk := if h = 1 then ⟨t.s, ⟨t.m.hi, t.m.hi⟩⟩ else ⟨t.s, ⟨t.m.lo, t.m.lo⟩⟩
/-- The first ones of some takes made sharp. -/
def sharpB (b : List Tk) (set n : Nat) : List Tk := (List.range b.length).map fun i => if i < n then sharpT (bAt b i) (bitT set i) else bAt b i
theorem sharpB_length (b : List Tk) (set n : Nat) : (sharpB b set n).length = b.length := by simp [sharpB]
theorem sharpB_zero (b : List Tk) (set : Nat) : sharpB b set 0 = b := by
  apply List.ext_getElem
  · simp [sharpB]
  · intro i h1 h2
    simp [sharpB, bAt_get h2]
theorem sharpB_get {b : List Tk} {set n i : Nat} (h : i < b.length) (h' : i < (sharpB b set n).length) : (sharpB b set n)[i] = if i < n then sharpT (bAt b i) (bitT set i) else bAt b i := by simp [sharpB]
theorem sharpB_set {b : List Tk} {set i : Nat} (h : i < b.length) : (sharpB b set i).set i (sharpT (bAt b i) (bitT set i)) = sharpB b set (i + 1) := by
  apply List.ext_getElem
  · simp [sharpB]
  · intro j h1 h2
    have hj : j < b.length := by simpa [sharpB] using h2
    rw [List.getElem_set]
    by_cases e : i = j
    · subst e
      rw [if_pos rfl, sharpB_get hj]
      simp
    · rw [if_neg e, sharpB_get hj, sharpB_get hj]
      by_cases h3 : j < i
      · rw [if_pos h3, if_pos (by omega)]
      · rw [if_neg h3, if_neg (by omega)]

/-! ### Narrower sacks and takes -/
structure Nar (l l' : List Sk) (b b' : List Tk) : Prop where
  v : validB l b = true
  v' : validB l' b' = true
  len : l'.length = l.length
  nar : ∀ i, i < l.length → narrow (l[i]?.getD zeroSk) (l'[i]?.getD zeroSk)
  wl : ∀ i, wLo b i ≤ wLo b' i
  wh : ∀ i, wHi b' i ≤ wHi b i
theorem okB_v {l : List Sk} {b : List Tk} (hv : validB l b = true) : okB b ∧ okT l.length b := okB_of (n := l.length) (b := b) (by unfold validB at hv; simp only [Bool.and_eq_true] at hv; exact hv.2)
theorem okL_v {l : List Sk} {b : List Tk} (hv : validB l b = true) : okL l := okL_of (valid_iff.1 hv).1
theorem cLo_nar2 {f : Int → Int → Int → Int} (hf : Tri f) {s s' : Sk} (h : narrow s s') (hs : okSk s') {lo hi lo' hi' : Int} (h0 : 0 ≤ lo) (h1 : lo ≤ lo') (h2 : lo' ≤ hi') (h3 : hi' ≤ hi) : cLo f s lo hi ≤ cLo f s' lo' hi' := by
  obtain ⟨k, hk, ek⟩ := mnF_at (fun k => min (lo' * f (s'.cw k) (s'.cc k) (s'.cl k)) (hi' * f (s'.cw k) (s'.cc k) (s'.cl k))) 8 (by omega)
  have g1 := one_lo hf (corner_in h hs k) (lo := lo) (hi := hi) (m := lo') h0 h1 (by omega)
  have g2 := one_lo hf (corner_in h hs k) (lo := lo) (hi := hi) (m := hi') h0 (by omega) h3
  have e : cLo f s' lo' hi' = _ := ek
  rw [e]
  dsimp only at g1 g2
  omega
theorem cHi_nar2 {f : Int → Int → Int → Int} (hf : Tri f) {s s' : Sk} (h : narrow s s') (hs : okSk s') {lo hi lo' hi' : Int} (h0 : 0 ≤ lo) (h1 : lo ≤ lo') (h2 : lo' ≤ hi') (h3 : hi' ≤ hi) : cHi f s' lo' hi' ≤ cHi f s lo hi := by
  obtain ⟨k, hk, ek⟩ := mxF_at (fun k => max (lo' * f (s'.cw k) (s'.cc k) (s'.cl k)) (hi' * f (s'.cw k) (s'.cc k) (s'.cl k))) 8 (by omega)
  have g1 := one_hi hf (corner_in h hs k) (lo := lo) (hi := hi) (m := lo') h0 h1 (by omega)
  have g2 := one_hi hf (corner_in h hs k) (lo := lo) (hi := hi) (m := hi') h0 (by omega) h3
  have e : cHi f s' lo' hi' = _ := ek
  rw [e]
  dsimp only at g1 g2
  omega
section
variable {l l' : List Sk} {b b' : List Tk} (n : Nar l l' b b')
include n
theorem Nar.sLo {f : Int → Int → Int → Int} (hf : Tri f) : sLo f l b ≤ sLo f l' b' := by
  have ok := okB_v n.v
  have ok' := okB_v n.v'
  unfold Proofs.Ytmcejcidbekpkaa.sLo
  rw [n.len]
  exact isum_mono _ fun i hi => cLo_nar2 hf (n.nar i hi) ((okL_v n.v').get (by rw [n.len]; exact hi)) (wB ok.1 i).1.1 (n.wl i) (wLe ok'.1 i) (n.wh i)
theorem Nar.sHi {f : Int → Int → Int → Int} (hf : Tri f) : sHi f l' b' ≤ sHi f l b := by
  have ok := okB_v n.v
  have ok' := okB_v n.v'
  unfold Proofs.Ytmcejcidbekpkaa.sHi
  rw [n.len]
  exact isum_mono _ fun i hi => cHi_nar2 hf (n.nar i hi) ((okL_v n.v').get (by rw [n.len]; exact hi)) (wB ok.1 i).1.1 (n.wl i) (wLe ok'.1 i) (n.wh i)
theorem Nar.parts (k : Int) : wL l b k ≤ wL l' b' k ∧ wH l' b' k ≤ wH l b k := by
  have h1 := n.sLo (Tri.of k)
  have h2 := n.sHi (Tri.of k)
  rw [sLo_part (okL_v n.v) (okB_v n.v).1, sLo_part (okL_v n.v') (okB_v n.v').1] at h1
  rw [sHi_part (okL_v n.v) (okB_v n.v).1, sHi_part (okL_v n.v') (okB_v n.v').1] at h2
  unfold wL wH
  rw [if_pos n.v, if_pos n.v, if_pos n.v', if_pos n.v']
  omega
theorem Nar.share : shL l b ≤ shL l' b' ∧ shH l' b' ≤ shH l b := by
  have okb := (okB_v n.v).1
  have okl := okL_v n.v
  have okb' := (okB_v n.v').1
  have okl' := okL_v n.v'
  have hsc := sc_B okl okb
  have g1 := (scLo_ge okl okb hsc.1).1 (Int.le_refl _)
  have g2 := (scHi_le okl okb hsc.2).1 (Int.le_refl _)
  have key1 : ∀ x, bLo l b x ≤ bLo l' b' x := fun x => n.sLo (f := overF x) (Tri.over x)
  have key2 : ∀ x, bHi l' b' x ≤ bHi l b x := fun x => n.sHi (f := overF x) (Tri.over x)
  have s1 : ∀ x, 0 ≤ x ∧ x ≤ 1000 → 0 ≤ bLo l b x → x ≤ scLo l' b' 1001 := fun x hx h => (scLo_ge okl' okb' hx).2 (Int.le_trans h (key1 x))
  have s2 : ∀ x, 0 ≤ x ∧ x ≤ 1000 → bHi l b x ≤ 0 → scHi l' b' 1001 ≤ x := fun x hx h => (scHi_le okl' okb' hx).2 (Int.le_trans (key2 x) h)
  unfold shL shH
  rw [if_pos n.v, if_pos n.v, if_pos n.v', if_pos n.v']
  exact ⟨s1 _ hsc.1 g1, s2 _ hsc.2 g2⟩
end

/-! ### A combination of ends -/
theorem sharpS_ok {s : Sk} (h : okSk s) (k : Nat) : okSk (sharpS s k) ∧ narrow s (sharpS s k) := by
  have h1 := cw_two s k
  have h2 := cc_two s k
  have h3 := cl_two s k
  unfold okSk at h ⊢
  unfold narrow sharpS
  dsimp only
  omega
theorem cw_sharp (s : Sk) (k j : Nat) : (sharpS s k).cw j = s.cw k := by rcases cw_two (sharpS s k) j with h | h <;> rw [h] <;> rfl
theorem cc_sharp (s : Sk) (k j : Nat) : (sharpS s k).cc j = s.cc k := by rcases cc_two (sharpS s k) j with h | h <;> rw [h] <;> rfl
theorem cl_sharp (s : Sk) (k j : Nat) : (sharpS s k).cl j = s.cl k := by rcases cl_two (sharpS s k) j with h | h <;> rw [h] <;> rfl
theorem cLo_sharp (f : Int → Int → Int → Int) (s : Sk) (k : Nat) (m : Int) : cLo f (sharpS s k) m m = m * f (s.cw k) (s.cc k) (s.cl k) := by
  unfold cLo
  simp only [cw_sharp, cc_sharp, cl_sharp, Int.min_self]
  exact mnF_const _ 8 (by omega)
theorem cHi_sharp (f : Int → Int → Int → Int) (s : Sk) (k : Nat) (m : Int) : cHi f (sharpS s k) m m = m * f (s.cw k) (s.cc k) (s.cl k) := by
  unfold cHi
  simp only [cw_sharp, cc_sharp, cl_sharp, Int.max_self]
  exact mxF_const _ 8 (by omega)
/-- A sharp batch weighs just so much. -/
theorem sharp_eq (b : List Tk) (set i : Nat) : wLo (sharpB b set b.length) i = wHi (sharpB b set b.length) i := by
  unfold wLo wHi
  rw [psum_all, psum_all]
  congr 1
  refine List.map_congr_left fun t ht => ?_
  unfold sharpB at ht
  obtain ⟨j, hj, rfl⟩ := List.mem_map.1 ht
  rw [if_pos (by simpa using hj)]
  unfold sharpT loK hiK
  split <;> rfl
theorem sharp_w {l : List Sk} {b : List Tk} (hv : validB l b = true) (set i : Nat) : wLo b i ≤ wLo (sharpB b set b.length) i ∧ wHi (sharpB b set b.length) i ≤ wHi b i := by
  obtain ⟨_, _, h3⟩ := valid_iff.1 hv
  unfold wLo wHi
  rw [sharpB_length]
  have gen : ∀ n, n ≤ b.length → psum (loK (i : Int)) b n ≤ psum (loK (i : Int)) (sharpB b set b.length) n ∧ psum (hiK (i : Int)) (sharpB b set b.length) n ≤ psum (hiK (i : Int)) b n := by
    intro n
    induction n with
    | zero => intro _; simp [psum_zero]
    | succ n ih =>
      intro hn
      have h1 := ih (by omega)
      have h2 := h3 b[n] (List.getElem_mem _)
      have hn' : n < (sharpB b set b.length).length := by rw [sharpB_length]; omega
      rw [psum_succ _ b n hn, psum_succ _ b n hn, psum_succ _ _ n hn', psum_succ _ _ n hn', sharpB_get hn hn', if_pos (show n < b.length by omega), bAt_get hn]
      unfold sharpT loK hiK
      unfold loK hiK at h1
      split <;> (try dsimp only) <;> split <;> (try dsimp only) <;> omega
  exact gen _ (Nat.le_refl _)
theorem sharp_valid {l : List Sk} {b : List Tk} (hv : validB l b = true) (bits set : Nat) : validB (sharpL l bits l.length) (sharpB b set b.length) = true := by
  obtain ⟨h1, h2, h3⟩ := valid_iff.1 hv
  have okl := okL_of h1
  refine valid_iff.2 ⟨?_, by rw [sharpB_length]; exact h2, fun t ht => ?_⟩
  · unfold areSacksB
    simp only [Bool.and_eq_true, decide_eq_true_eq, Bool.not_eq_true', List.any_eq_false]
    refine ⟨by rw [sharpL_length]; have := okl.1; omega, fun s hs => ?_⟩
    unfold sharpL at hs
    obtain ⟨i, hi, rfl⟩ := List.mem_map.1 hs
    have := (sharpS_ok (okl.get (by simpa using hi)) (bitK bits i)).1
    unfold okSk at this
    simp [Sk.bad, Sp.ok]
    omega
  · unfold sharpB at ht
    obtain ⟨i, hi, rfl⟩ := List.mem_map.1 ht
    have hi' : i < b.length := by simpa using hi
    rw [if_pos hi', bAt_get hi', sharpL_length]
    have := h3 b[i] (List.getElem_mem _)
    unfold sharpT
    split <;> dsimp only <;> omega
theorem sharp_nar {l : List Sk} {b : List Tk} (hv : validB l b = true) (bits set : Nat) : Nar l (sharpL l bits l.length) b (sharpB b set b.length) :=
  ⟨hv, sharp_valid hv bits set, sharpL_length _ _ _, fun i hi => by rw [sharpL_get l bits l.length hi]; exact (sharpS_ok ((okL_v hv).get hi) _).2, fun i => (sharp_w hv set i).1, fun i => (sharp_w hv set i).2⟩
theorem sharp_sLo {l : List Sk} {b : List Tk} (f : Int → Int → Int → Int) (bits set : Nat) : sLo f (sharpL l bits l.length) (sharpB b set b.length) = sHi f (sharpL l bits l.length) (sharpB b set b.length) := by
  unfold sLo sHi
  rw [sharpL_length]
  refine isum_congr _ fun i hi => ?_
  rw [sharpL_get l bits l.length hi, ← sharp_eq, cLo_sharp, cHi_sharp]
/-- What one choice of ends for each sack gives. -/
theorem choose {l : List Sk} {b : List Tk} (hl2 : l.length ≤ 2) (hb2 : b.length ≤ 2) (f : Int → Int → Int → Int) (G : Sk → Int → Int → Int)
    (hG : ∀ (s : Sk) (lo hi : Int), ∃ k, k < 8 ∧ (G s lo hi = lo * f (s.cw k) (s.cc k) (s.cl k) ∨ G s lo hi = hi * f (s.cw k) (s.cc k) (s.cl k))) (ht : okT l.length b) :
    ∃ bits set, bits < 64 ∧ set < 4 ∧ sLo f (sharpL l bits l.length) (sharpB b set b.length) = isum (fun i => G (l[i]?.getD zeroSk) (wLo b i) (wHi b i)) l.length := by
  have ch : ∀ i : Nat, ∃ k h, k < 8 ∧ h < 2 ∧ G (l[i]?.getD zeroSk) (wLo b i) (wHi b i) = (if h = 1 then wHi b i else wLo b i) * f ((l[i]?.getD zeroSk).cw k) ((l[i]?.getD zeroSk).cc k) ((l[i]?.getD zeroSk).cl k) := fun i => by
    obtain ⟨k, hk, h | h⟩ := hG (l[i]?.getD zeroSk) (wLo b i) (wHi b i)
    · exact ⟨k, 0, hk, by omega, by rw [if_neg (by omega)]; exact h⟩
    · exact ⟨k, 1, hk, by omega, by rw [if_pos rfl]; exact h⟩
  obtain ⟨k0, h0, hk0, hh0, e0⟩ := ch 0
  obtain ⟨k1, h1, hk1, hh1, e1⟩ := ch 1
  have hB : ∀ k0 : Fin 8, ∀ k1 : Fin 8, bitK (k0.1 + 8 * k1.1) 0 = k0.1 ∧ bitK (k0.1 + 8 * k1.1) 1 = k1.1 := by decide
  have hT : ∀ a : Fin 2, ∀ c : Fin 2, bitT (a.1 + 2 * c.1) 0 = a.1 ∧ bitT (a.1 + 2 * c.1) 1 = c.1 := by decide
  obtain ⟨b0, b1⟩ := hB ⟨k0, hk0⟩ ⟨k1, hk1⟩
  -- the end of a take: that of its sack
  let hOf : Int → Nat := fun s => if s = 0 then h0 else h1
  have hOf2 : ∀ s, hOf s < 2 := fun s => by show (if s = 0 then h0 else h1) < 2; split <;> assumption
  let t0 := hOf (bAt b 0).s
  let t1 := hOf (bAt b 1).s
  obtain ⟨c0, c1⟩ := hT ⟨t0, hOf2 _⟩ ⟨t1, hOf2 _⟩
  refine ⟨k0 + 8 * k1, t0 + 2 * t1, by omega, by have := hOf2 (bAt b 0).s; have := hOf2 (bAt b 1).s; omega, ?_⟩
  have hset : ∀ i, i < b.length → bitT (t0 + 2 * t1) i = hOf (bAt b i).s := fun i hi => by
    have : i = 0 ∨ i = 1 := by omega
    rcases this with rfl | rfl
    · exact c0
    · exact c1
  have hw : ∀ i : Nat, i < l.length → wLo (sharpB b (t0 + 2 * t1) b.length) i = if hOf i = 1 then wHi b i else wLo b i := fun i hi => by
    unfold wLo wHi
    rw [sharpB_length]
    have gen : ∀ n, n ≤ b.length → psum (loK (i : Int)) (sharpB b (t0 + 2 * t1) b.length) n = if hOf i = 1 then psum (hiK (i : Int)) b n else psum (loK (i : Int)) b n := by
      intro n
      induction n with
      | zero => intro _; simp [psum_zero]
      | succ n ih =>
        intro hn
        have h1 := ih (by omega)
        have hn' : n < (sharpB b (t0 + 2 * t1) b.length).length := by rw [sharpB_length]; omega
        rw [psum_succ _ b n hn, psum_succ _ b n hn, psum_succ _ _ n hn', sharpB_get hn hn', if_pos (show n < b.length by omega), hset n hn, bAt_get hn, h1]
        unfold sharpT loK hiK
        by_cases e : b[n].s = (i : Int)
        · rw [e]
          by_cases e2 : hOf (i : Int) = 1
          · simp [e2, e]
          · simp [e2, e]
        · by_cases e2 : hOf (i : Int) = 1 <;> by_cases e3 : hOf b[n].s = 1 <;> simp [e, e2, e3]
    exact gen _ (Nat.le_refl _)
  unfold sLo
  rw [sharpL_length]
  refine isum_congr _ fun i hi => ?_
  rw [sharpL_get l _ l.length hi, ← sharp_eq, cLo_sharp, hw i hi]
  have : i = 0 ∨ i = 1 := by omega
  rcases this with rfl | rfl
  · rw [b0]
    exact e0.symm
  · rw [b1]
    exact e1.symm
theorem cLo_at (f : Int → Int → Int → Int) (s : Sk) (lo hi : Int) : ∃ k, k < 8 ∧ (cLo f s lo hi = lo * f (s.cw k) (s.cc k) (s.cl k) ∨ cLo f s lo hi = hi * f (s.cw k) (s.cc k) (s.cl k)) := by
  obtain ⟨k, hk, ek⟩ := mnF_at (fun k => min (lo * f (s.cw k) (s.cc k) (s.cl k)) (hi * f (s.cw k) (s.cc k) (s.cl k))) 8 (by omega)
  have e : cLo f s lo hi = _ := ek
  exact ⟨k, hk, by rw [e]; omega⟩
theorem cHi_at (f : Int → Int → Int → Int) (s : Sk) (lo hi : Int) : ∃ k, k < 8 ∧ (cHi f s lo hi = lo * f (s.cw k) (s.cc k) (s.cl k) ∨ cHi f s lo hi = hi * f (s.cw k) (s.cc k) (s.cl k)) := by
  obtain ⟨k, hk, ek⟩ := mxF_at (fun k => max (lo * f (s.cw k) (s.cc k) (s.cl k)) (hi * f (s.cw k) (s.cc k) (s.cl k))) 8 (by omega)
  have e : cHi f s lo hi = _ := ek
  exact ⟨k, hk, by rw [e]; omega⟩

/-! ### The six spans of a combination -/
def sixL (l : List Sk) (b : List Tk) (k : Nat) : Int := if k = 5 then shL l b else wL l b k
def sixH (l : List Sk) (b : List Tk) (k : Nat) : Int := if k = 5 then shH l b else wH l b k
def oL (l : List Sk) (b : List Tk) (k t : Nat) : Int := sixL (sharpL l (t / 4) l.length) (sharpB b (t % 4) b.length) k
def oH (l : List Sk) (b : List Tk) (k t : Nat) : Int := sixH (sharpL l (t / 4) l.length) (sharpB b (t % 4) b.length) k
section
variable {l : List Sk} {b : List Tk} (hv : validB l b = true)
include hv
theorem six_nar (k t : Nat) : sixL l b k ≤ oL l b k t ∧ oH l b k t ≤ sixH l b k := by
  have n := sharp_nar hv (t / 4) (t % 4)
  unfold oL oH sixL sixH
  split
  · exact n.share
  · exact n.parts k
/-- One at most apart. -/
theorem six_near (k t : Nat) : oH l b k t ≤ oL l b k t + 1 := by
  have v' := sharp_valid hv (t / 4) (t % 4)
  have okl' := okL_v v'
  have okb' := (okB_v v').1
  unfold oL oH sixL sixH
  split
  · have hsc := sc_B okl' okb'
    unfold shL shH
    rw [if_pos v', if_pos v']
    have key : ∀ x, 0 ≤ x ∧ x ≤ 1000 → x ≤ scLo (sharpL l (t / 4) l.length) (sharpB b (t % 4) b.length) 1001 → ¬ (x + 1 ≤ scLo (sharpL l (t / 4) l.length) (sharpB b (t % 4) b.length) 1001) → x + 1 ≤ 1000 → scHi (sharpL l (t / 4) l.length) (sharpB b (t % 4) b.length) 1001 ≤ x + 1 := fun x hx h1 h2 h3 => by
      have g1 : ¬ 0 ≤ bLo (sharpL l (t / 4) l.length) (sharpB b (t % 4) b.length) (x + 1) := fun h => h2 ((scLo_ge okl' okb' (by omega)).2 h)
      have g2 : bLo (sharpL l (t / 4) l.length) (sharpB b (t % 4) b.length) (x + 1) = bHi (sharpL l (t / 4) l.length) (sharpB b (t % 4) b.length) (x + 1) := sharp_sLo (overF (x + 1)) (t / 4) (t % 4)
      exact (scHi_le okl' okb' (by omega)).2 (by omega)
    generalize scLo (sharpL l (t / 4) l.length) (sharpB b (t % 4) b.length) 1001 = X at key hsc ⊢
    generalize scHi (sharpL l (t / 4) l.length) (sharpB b (t % 4) b.length) 1001 = Y at key hsc ⊢
    by_cases hX : X + 1 ≤ 1000
    · exact key X hsc.1 (Int.le_refl _) (by omega) hX
    · omega
  · have g := sharp_sLo (l := l) (b := b) (ofF k) (t / 4) (t % 4)
    rw [sLo_part okl' okb', sHi_part okl' okb'] at g
    unfold wL wH
    rw [if_pos v', if_pos v', g]
    omega
theorem six_lo (hl2 : l.length ≤ 2) (hb2 : b.length ≤ 2) (k : Nat) : ∃ t, t < 256 ∧ oL l b k t ≤ sixL l b k := by
  have okl := okL_v hv
  have okb := okB_v hv
  have pack : ∀ bits set : Nat, set < 4 → (4 * bits + set) / 4 = bits ∧ (4 * bits + set) % 4 = set := fun bits set h => by omega
  unfold oL sixL
  by_cases h5 : k = 5
  · simp only [if_pos h5]
    have hsc := sc_B okl okb.1
    unfold shL
    simp only [if_pos hv, if_pos (sharp_valid hv _ _)]
    have nle : ∀ x, x = scLo l b 1001 → x + 1 ≤ 1000 → ¬ 0 ≤ bLo l b (x + 1) := fun x hx h h2 => by
      have := (scLo_ge okl okb.1 (x := x + 1) (by omega)).2 h2
      omega
    by_cases hX : scLo l b 1001 + 1 ≤ 1000
    · have hn := nle _ rfl hX
      obtain ⟨bits, set, hb, hs, e⟩ := choose hl2 hb2 (overF (scLo l b 1001 + 1)) (cLo (overF (scLo l b 1001 + 1))) (cLo_at _) okb.2
      refine ⟨4 * bits + set, by omega, ?_⟩
      rw [(pack bits set hs).1, (pack bits set hs).2]
      have v' := sharp_valid hv bits set
      have e2 : bLo (sharpL l bits l.length) (sharpB b set b.length) (scLo l b 1001 + 1) = bLo l b (scLo l b 1001 + 1) := e
      have key : ∀ x, x ≤ 1000 → 0 ≤ x → ¬ 0 ≤ bLo (sharpL l bits l.length) (sharpB b set b.length) x → scLo (sharpL l bits l.length) (sharpB b set b.length) 1001 < x := fun x h1 h2 h3 => by
        rcases Int.lt_or_le (scLo (sharpL l bits l.length) (sharpB b set b.length) 1001) x with h | h
        · exact h
        · exact absurd ((scLo_ge (okL_v v') (okB_v v').1 ⟨h2, h1⟩).1 h) h3
      have := key (scLo l b 1001 + 1) hX (by omega) (by rw [e2]; exact hn)
      omega
    · refine ⟨0, by omega, ?_⟩
      have v' := sharp_valid hv (0 / 4) (0 % 4)
      have := sc_B (okL_v v') (okB_v v').1
      omega
  · simp only [if_neg h5]
    obtain ⟨bits, set, hb, hs, e⟩ := choose hl2 hb2 (ofF k) (cLo (ofF k)) (cLo_at _) okb.2
    refine ⟨4 * bits + set, by omega, ?_⟩
    rw [(pack bits set hs).1, (pack bits set hs).2]
    have v' := sharp_valid hv bits set
    have e2 : sLo (ofF k) (sharpL l bits l.length) (sharpB b set b.length) = sLo (ofF k) l b := e
    rw [sLo_part (okL_v v') (okB_v v').1, sLo_part okl okb.1] at e2
    unfold wL
    rw [if_pos hv, if_pos v', e2]
    exact Int.le_refl _
theorem six_hi (hl2 : l.length ≤ 2) (hb2 : b.length ≤ 2) (k : Nat) : ∃ t, t < 256 ∧ sixH l b k ≤ oH l b k t := by
  have okl := okL_v hv
  have okb := okB_v hv
  have pack : ∀ bits set : Nat, set < 4 → (4 * bits + set) / 4 = bits ∧ (4 * bits + set) % 4 = set := fun bits set h => by omega
  unfold oH sixH
  by_cases h5 : k = 5
  · simp only [if_pos h5]
    have hsc := sc_B okl okb.1
    unfold shH
    simp only [if_pos hv, if_pos (sharp_valid hv _ _)]
    have nle : ∀ x, x = scHi l b 1001 → 0 ≤ x - 1 → ¬ bHi l b (x - 1) ≤ 0 := fun x hx h h2 => by
      have := (scHi_le okl okb.1 (x := x - 1) (by omega)).2 h2
      omega
    by_cases hX : 0 ≤ scHi l b 1001 - 1
    · have hn := nle _ rfl hX
      obtain ⟨bits, set, hb, hs, e⟩ := choose hl2 hb2 (overF (scHi l b 1001 - 1)) (cHi (overF (scHi l b 1001 - 1))) (cHi_at _) okb.2
      refine ⟨4 * bits + set, by omega, ?_⟩
      rw [(pack bits set hs).1, (pack bits set hs).2]
      have v' := sharp_valid hv bits set
      rw [sharp_sLo] at e
      have e2 : bHi (sharpL l bits l.length) (sharpB b set b.length) (scHi l b 1001 - 1) = bHi l b (scHi l b 1001 - 1) := e
      have key : ∀ x, x ≤ 1000 → 0 ≤ x → ¬ bHi (sharpL l bits l.length) (sharpB b set b.length) x ≤ 0 → x < scHi (sharpL l bits l.length) (sharpB b set b.length) 1001 := fun x h1 h2 h3 => by
        rcases Int.lt_or_le x (scHi (sharpL l bits l.length) (sharpB b set b.length) 1001) with h | h
        · exact h
        · exact absurd ((scHi_le (okL_v v') (okB_v v').1 ⟨h2, h1⟩).1 h) h3
      have := key (scHi l b 1001 - 1) (by omega) hX (by rw [e2]; exact hn)
      omega
    · refine ⟨0, by omega, ?_⟩
      have v' := sharp_valid hv (0 / 4) (0 % 4)
      have := sc_B (okL_v v') (okB_v v').1
      omega
  · simp only [if_neg h5]
    obtain ⟨bits, set, hb, hs, e⟩ := choose hl2 hb2 (ofF k) (cHi (ofF k)) (cHi_at _) okb.2
    refine ⟨4 * bits + set, by omega, ?_⟩
    rw [(pack bits set hs).1, (pack bits set hs).2]
    have v' := sharp_valid hv bits set
    rw [sharp_sLo] at e
    have e2 : sHi (ofF k) (sharpL l bits l.length) (sharpB b set b.length) = sHi (ofF k) l b := e
    rw [sHi_part (okL_v v') (okB_v v').1, sHi_part okl okb.1] at e2
    unfold wH
    rw [if_pos hv, if_pos v', e2]
    exact Int.le_refl _
/-- The best of all is the whole. -/
theorem best_lo (hl2 : l.length ≤ 2) (hb2 : b.length ≤ 2) (k : Nat) : mnF (oL l b k) 256 = sixL l b k := by
  obtain ⟨t, ht, h1⟩ := six_lo hv hl2 hb2 k
  have h2 := mnF_le (oL l b k) 256 t ht
  obtain ⟨j, hj, ej⟩ := mnF_at (oL l b k) 256 (by omega)
  have h3 := (six_nar hv k j).1
  omega
theorem best_hi (hl2 : l.length ≤ 2) (hb2 : b.length ≤ 2) (k : Nat) : mxF (oH l b k) 256 = sixH l b k := by
  obtain ⟨t, ht, h1⟩ := six_hi hv hl2 hb2 k
  have h2 := mxF_le (oH l b k) 256 t ht
  obtain ⟨j, hj, ej⟩ := mxF_at (oH l b k) 256 (by omega)
  have h3 := (six_nar hv k j).2
  omega
end
end Go.Proofs.Ytmcejcidbekpkaa
