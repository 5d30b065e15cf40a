/-
  The plain law of the sack's sums: a sum over the batch is the document's sum over the sacks. No program in sight.
-/
import Derived.Test.YtmcejcidbekpkaaSkD
import Derived.Test.YtmcejcidbekpkaaSk12
set_option linter.unusedVariables false
set_option linter.unusedSimpArgs false
namespace Go.Proofs.Ytmcejcidbekpkaa
open Go.AF

theorem mget_mem {K α : Type} [DecidableEq K] {k : K} {v : α} : ∀ {ms : List (K × α)}, mget k ms = some v → (k, v) ∈ ms
  | [], h => by simp [mget] at h
  | m :: r, h => by
    simp only [mget] at h
    split at h
    · rename_i hk
      simp at h
      subst h; subst hk
      simp
    · exact List.mem_cons_of_mem _ (mget_mem h)
theorem mem_mset {K α : Type} [DecidableEq K] {k : K} {a : α} {x : K × α} : ∀ {ms : List (K × α)}, x ∈ mset k a ms → x = (k, a) ∨ x ∈ ms
  | [], h => by simp [mset] at h; exact .inl h
  | m :: r, h => by
    simp only [mset] at h
    split at h
    · rcases List.mem_cons.1 h with h | h
      · exact .inl h
      · exact .inr (List.mem_cons_of_mem _ h)
    · rcases List.mem_cons.1 h with h | h
      · exact .inr (by simp [h])
      · rcases mem_mset h with h | h
        · exact .inl h
        · exact .inr (List.mem_cons_of_mem _ h)
theorem sum_mset {K α : Type} [DecidableEq K] (f : α → Int) (k : K) (a z : α) (hz : f z = 0) : ∀ ms : List (K × α), ((mset k a ms).map fun m => f m.2).sum = (ms.map fun m => f m.2).sum - f ((mget k ms).getD z) + f a
  | [] => by simp [mset, mget, hz]
  | m :: r => by
    simp only [mset, mget]
    split
    · rename_i hk
      simp
      omega
    · have ih := sum_mset f k a z hz r
      simp only [List.map_cons, List.sum_cons, ih]
      omega
theorem isum_congr {f g : Nat → Int} : ∀ n, (∀ j, j < n → f j = g j) → isum f n = isum g n
  | 0, _ => rfl
  | n + 1, h => by simp only [isum]; rw [isum_congr n (fun j hj => h j (by omega)), h n (by omega)]
theorem isum_zero {f : Nat → Int} : ∀ n, (∀ j, j < n → f j = 0) → isum f n = 0
  | 0, _ => rfl
  | n + 1, h => by simp only [isum]; rw [isum_zero n (fun j hj => h j (by omega)), h n (by omega)]; rfl
theorem isum_turn {f g : Nat → Int} {k : Nat} : ∀ n, k < n → (∀ j, j < n → j ≠ k → g j = f j) → isum g n = isum f n - f k + g k
  | 0, h, _ => by omega
  | n + 1, h, hj => by
    simp only [isum]
    by_cases e : k = n
    · subst e
      rw [isum_congr (f := g) (g := f) k (fun j h1 => hj j (by omega) (by omega))]
      omega
    · rw [isum_turn (f := f) (g := g) n (by omega) (fun j h1 h2 => hj j (by omega) h2), hj n (by omega) (by omega)]
      omega

/-! ### What is in a batch -/
theorem buildM_fst (l : List Sk) (b : List Tk) (k : Int) (v : Sk × Sp) : ∀ i, i ≤ b.length → mget k (buildM l b i) = some v → v.1 = l[k.toNat]?.getD zeroSk
  | 0, _, h => by simp [buildM, mget] at h
  | i + 1, hi, h => by
    rw [buildM_succ l b i hi, buildStep, mget_mset] at h
    split at h
    · rename_i hk
      simp at h
      subst h
      simp [hk]
    · exact buildM_fst l b k v i (by omega) h
theorem buildM_mem {l : List Sk} {b : List Tk} (hl : okL l) (hb : okB b) (ht : okT l.length b) : ∀ i, i ≤ b.length → ∀ m ∈ buildM l b i, (0 ≤ m.2.2.lo ∧ m.2.2.lo ≤ m.2.2.hi) ∧ okSk m.2.1
  | 0, _, m, h => by simp [buildM] at h
  | i + 1, hi, m, h => by
    have ih := buildM_mem hl hb ht i (by omega)
    rw [buildM_succ l b i hi, buildStep] at h
    rcases mem_mset h with h | h
    · subst h
      have h1 := hb.2 b[i] (List.getElem_mem _)
      have h2 := ht b[i] (List.getElem_mem _)
      have h3 : b[i].s.toNat < l.length := by omega
      have h4 : 0 ≤ ((mget b[i].s (buildM l b i)).getD zeroSt).2.lo ∧ ((mget b[i].s (buildM l b i)).getD zeroSt).2.lo ≤ ((mget b[i].s (buildM l b i)).getD zeroSt).2.hi := by
        cases hg : mget b[i].s (buildM l b i) with
        | none => simp [zeroSt]
        | some v => have := (ih _ (mget_mem hg)).1; simpa using this
      refine ⟨⟨by dsimp only; omega, by dsimp only; omega⟩, ?_⟩
      dsimp only
      rw [List.getElem?_eq_getElem h3, Option.getD_some]
      exact hl.2 _ (List.getElem_mem _)
    · exact ih m h
/-- The sum over a batch, and over the sacks. -/
theorem buildM_sum {l : List Sk} {b : List Tk} (ht : okT l.length b) (g : Sk → Int → Int → Int) (h0 : ∀ s, g s 0 0 = 0) : ∀ i, i ≤ b.length →
    ((buildM l b i).map fun m => g m.2.1 m.2.2.lo m.2.2.hi).sum = isum (fun j => g (l[j]?.getD zeroSk) (psum (loK (j : Int)) b i) (psum (hiK (j : Int)) b i)) l.length
  | 0, _ => by
    rw [isum_zero]
    · simp [buildM]
    · intro j _
      simp only [psum_zero]
      exact h0 _
  | i + 1, hi => by
    have ih := buildM_sum ht g h0 i (by omega)
    have h2 := ht b[i] (List.getElem_mem _)
    have h3 : b[i].s.toNat < l.length := by omega
    have e0 : ((b[i].s.toNat : Nat) : Int) = b[i].s := by omega
    rw [buildM_succ l b i hi, buildStep, sum_mset (fun v : Sk × Sp => g v.1 v.2.lo v.2.hi) b[i].s _ zeroSt (by simp [zeroSt, h0]), ih,
      isum_turn (f := fun j : Nat => g (l[j]?.getD zeroSk) (psum (loK (j : Int)) b i) (psum (hiK (j : Int)) b i)) (g := fun j : Nat => g (l[j]?.getD zeroSk) (psum (loK (j : Int)) b (i + 1)) (psum (hiK (j : Int)) b (i + 1))) l.length h3 (fun j hj hn => by
        have hne : ¬ b[i].s = (j : Int) := by omega
        simp only [psum_succ _ b i hi, loK, hiK, if_neg hne, Int.add_zero])]
    have hg := buildM_get l b b[i].s i (by omega)
    have e1 : g ((mget b[i].s (buildM l b i)).getD zeroSt).1 ((mget b[i].s (buildM l b i)).getD zeroSt).2.lo ((mget b[i].s (buildM l b i)).getD zeroSt).2.hi = g (l[b[i].s.toNat]?.getD zeroSk) (psum (loK b[i].s) b i) (psum (hiK b[i].s) b i) := by
      cases hm : mget b[i].s (buildM l b i) with
      | none =>
        rw [hm] at hg
        simp only [Option.getD_none, zeroSt] at hg ⊢
        have q1 : psum (loK b[i].s) b i = 0 := (congrArg Sp.lo hg).symm
        have q2 : psum (hiK b[i].s) b i = 0 := (congrArg Sp.hi hg).symm
        rw [q1, q2, h0, h0]
      | some v =>
        rw [hm] at hg
        simp only [Option.getD_some] at hg ⊢
        rw [buildM_fst l b _ v i (by omega) hm, hg]
    dsimp only
    rw [e1, e0, hg, psum_succ _ b i hi, psum_succ _ b i hi]
    simp only [loK, hiK, if_true]
theorem buildM_hi {l : List Sk} {b : List Tk} (hb : okB b) : ∀ i, i ≤ b.length → ((buildM l b i).map hiS).sum ≤ 100000 * (i : Int)
  | 0, _ => by simp [buildM]
  | i + 1, hi => by
    have ih := buildM_hi (l := l) hb i (by omega)
    have h1 := hb.2 b[i] (List.getElem_mem _)
    have e := sum_mset (fun v : Sk × Sp => v.2.hi) b[i].s (l[b[i].s.toNat]?.getD zeroSk, ⟨((mget b[i].s (buildM l b i)).getD zeroSt).2.lo + b[i].m.lo, ((mget b[i].s (buildM l b i)).getD zeroSt).2.hi + b[i].m.hi⟩) zeroSt rfl (buildM l b i)
    rw [buildM_succ l b i hi, buildStep]
    unfold hiS at ih ⊢
    rw [e]
    dsimp only
    omega
theorem buildM_ok {l : List Sk} {b : List Tk} (hl : okL l) (hb : okB b) (ht : okT l.length b) : okM (buildM l b b.length) := by
  have h := buildM_mem hl hb ht b.length (Nat.le_refl _)
  refine ⟨fun m hm => (h m hm).1, ?_, fun m hm => (h m hm).2⟩
  have := buildM_hi (l := l) hb b.length (Nat.le_refl _)
  have := hb.1
  omega

/-! ### The least and the greatest of eight, in another order -/
theorem mnF_le (f : Nat → Int) : ∀ n j, j < n → mnF f n ≤ f j
  | 0, j, h => by omega
  | n + 1, j, h => by
    simp only [mnF]
    split
    · rename_i h0; subst h0; obtain rfl : j = 0 := by omega
      exact Int.le_refl _
    · rcases Nat.lt_succ_iff_lt_or_eq.1 h with h1 | rfl
      · have := mnF_le f n j h1; omega
      · omega
theorem mnF_at (f : Nat → Int) : ∀ n, 0 < n → ∃ j, j < n ∧ mnF f n = f j
  | 0, h => by omega
  | n + 1, _ => by
    simp only [mnF]
    split
    · rename_i h0; exact ⟨0, by omega, rfl⟩
    · obtain ⟨j, h1, h2⟩ := mnF_at f n (by omega)
      rcases Int.le_total (mnF f n) (f n) with h | h
      · exact ⟨j, by omega, by omega⟩
      · exact ⟨n, by omega, by omega⟩
theorem mxF_le (f : Nat → Int) : ∀ n j, j < n → f j ≤ mxF f n
  | 0, j, h => by omega
  | n + 1, j, h => by
    simp only [mxF]
    split
    · rename_i h0; subst h0; obtain rfl : j = 0 := by omega
      exact Int.le_refl _
    · rcases Nat.lt_succ_iff_lt_or_eq.1 h with h1 | rfl
      · have := mxF_le f n j h1; omega
      · omega
theorem mxF_at (f : Nat → Int) : ∀ n, 0 < n → ∃ j, j < n ∧ mxF f n = f j
  | 0, h => by omega
  | n + 1, _ => by
    simp only [mxF]
    split
    · rename_i h0; exact ⟨0, by omega, rfl⟩
    · obtain ⟨j, h1, h2⟩ := mxF_at f n (by omega)
      rcases Int.le_total (f n) (mxF f n) with h | h
      · exact ⟨j, by omega, by omega⟩
      · exact ⟨n, by omega, by omega⟩
theorem mnF_eq {f g : Nat → Int} {n : Nat} (hn : 0 < n) (h1 : ∀ j, j < n → ∃ i, i < n ∧ g i ≤ f j) (h2 : ∀ j, j < n → ∃ i, i < n ∧ f i ≤ g j) : mnF f n = mnF g n := by
  obtain ⟨j, hj, ej⟩ := mnF_at f n hn
  obtain ⟨k, hk, ek⟩ := mnF_at g n hn
  obtain ⟨i, hi, le1⟩ := h1 j hj
  obtain ⟨i', hi', le2⟩ := h2 k hk
  have := mnF_le g n i hi
  have := mnF_le f n i' hi'
  omega
theorem mxF_eq {f g : Nat → Int} {n : Nat} (hn : 0 < n) (h1 : ∀ j, j < n → ∃ i, i < n ∧ f j ≤ g i) (h2 : ∀ j, j < n → ∃ i, i < n ∧ g j ≤ f i) : mxF f n = mxF g n := by
  obtain ⟨j, hj, ej⟩ := mxF_at f n hn
  obtain ⟨k, hk, ek⟩ := mxF_at g n hn
  obtain ⟨i, hi, le1⟩ := h1 j hj
  obtain ⟨i', hi', le2⟩ := h2 k hk
  have := mxF_le g n i hi
  have := mxF_le f n i' hi'
  omega
/-- The program's number of a corner. -/
def sig (k : Nat) : Nat := 4 * (k % 2) + 2 * (k / 2 % 2) + k / 4 % 2
theorem sig_lt (k : Nat) : sig k < 8 := by unfold sig; omega
theorem sig_sig : ∀ k, k < 8 → sig (sig k) = k := by decide
theorem stF_sig (f : Int → Int → Int → Int) (s : Sk) : ∀ k, k < 8 → stF f s (sig k) = f (s.cw k) (s.cc k) (s.cl k)
  | 0, _ => rfl | 1, _ => rfl | 2, _ => rfl | 3, _ => rfl | 4, _ => rfl | 5, _ => rfl | 6, _ => rfl | 7, _ => rfl
  | n + 8, h => by omega
theorem mnF_sig (h : Nat → Int) (g : Nat → Int) (e : ∀ k, k < 8 → h (sig k) = g k) : mnF h 8 = mnF g 8 :=
  mnF_eq (by omega) (fun j hj => ⟨sig j, sig_lt j, by rw [← e _ (sig_lt j), sig_sig j hj]; exact Int.le_refl _⟩) (fun j hj => ⟨sig j, sig_lt j, by rw [e j hj]; exact Int.le_refl _⟩)
theorem mxF_sig (h : Nat → Int) (g : Nat → Int) (e : ∀ k, k < 8 → h (sig k) = g k) : mxF h 8 = mxF g 8 :=
  mxF_eq (by omega) (fun j hj => ⟨sig j, sig_lt j, by rw [← e _ (sig_lt j), sig_sig j hj]; exact Int.le_refl _⟩) (fun j hj => ⟨sig j, sig_lt j, by rw [e j hj]; exact Int.le_refl _⟩)
theorem mnF_const (c : Int) : ∀ n, 0 < n → mnF (fun _ => c) n = c
  | 0, h => by omega
  | n + 1, _ => by
    simp only [mnF]
    split
    · rfl
    · rw [mnF_const c n (by omega)]; omega
theorem mxF_const (c : Int) : ∀ n, 0 < n → mxF (fun _ => c) n = c
  | 0, h => by omega
  | n + 1, _ => by
    simp only [mxF]
    split
    · rfl
    · rw [mxF_const c n (by omega)]; omega
theorem mnF_congr {f g : Nat → Int} : ∀ n, (∀ j, j < n → f j = g j) → mnF f n = mnF g n
  | 0, _ => rfl
  | n + 1, h => by simp only [mnF]; rw [mnF_congr n (fun j hj => h j (by omega)), h n (by omega), h 0 (by omega)]
theorem mxF_congr {f g : Nat → Int} : ∀ n, (∀ j, j < n → f j = g j) → mxF f n = mxF g n
  | 0, _ => rfl
  | n + 1, h => by simp only [mxF]; rw [mxF_congr n (fun j hj => h j (by omega)), h n (by omega), h 0 (by omega)]

/-! ### The sums of the program, and of the document -/
/-- What one sack adds, by its corners. -/
def cLo (f : Int → Int → Int → Int) (s : Sk) (lo hi : Int) : Int := mnF (fun k => min (lo * f (s.cw k) (s.cc k) (s.cl k)) (hi * f (s.cw k) (s.cc k) (s.cl k))) 8
def cHi (f : Int → Int → Int → Int) (s : Sk) (lo hi : Int) : Int := mxF (fun k => max (lo * f (s.cw k) (s.cc k) (s.cl k)) (hi * f (s.cw k) (s.cc k) (s.cl k))) 8
theorem cLo_zero (f : Int → Int → Int → Int) (s : Sk) : cLo f s 0 0 = 0 := by
  unfold cLo
  simp only [Int.zero_mul, Int.min_self]
  exact mnF_const 0 8 (by omega)
theorem cHi_zero (f : Int → Int → Int → Int) (s : Sk) : cHi f s 0 0 = 0 := by
  unfold cHi
  simp only [Int.zero_mul, Int.max_self]
  exact mxF_const 0 8 (by omega)
theorem lowS_c (f : Int → Int → Int → Int) (m : Int × (Sk × Sp)) : lowS (stF f) m = cLo f m.2.1 m.2.2.lo m.2.2.hi :=
  mnF_sig _ _ (fun k hk => by simp only [stF_sig f m.2.1 k hk])
theorem highS_c (f : Int → Int → Int → Int) (m : Int × (Sk × Sp)) : highS (stF f) m = cHi f m.2.1 m.2.2.lo m.2.2.hi :=
  mxF_sig _ _ (fun k hk => by simp only [stF_sig f m.2.1 k hk])
def sLo (f : Int → Int → Int → Int) (l : List Sk) (b : List Tk) : Int := isum (fun i => cLo f (l[i]?.getD zeroSk) (wLo b i) (wHi b i)) l.length
def sHi (f : Int → Int → Int → Int) (l : List Sk) (b : List Tk) : Int := isum (fun i => cHi f (l[i]?.getD zeroSk) (wLo b i) (wHi b i)) l.length
theorem sum_lo {l : List Sk} {b : List Tk} (ht : okT l.length b) (f : Int → Int → Int → Int) : ((buildM l b b.length).map (lowS (stF f))).sum = sLo f l b := by
  have := buildM_sum ht (cLo f) (cLo_zero f) b.length (Nat.le_refl _)
  unfold sLo wLo wHi
  rw [← this]
  congr 1
  exact List.map_congr_left fun m _ => lowS_c f m
theorem sum_hi {l : List Sk} {b : List Tk} (ht : okT l.length b) (f : Int → Int → Int → Int) : ((buildM l b b.length).map (highS (stF f))).sum = sHi f l b := by
  have := buildM_sum ht (cHi f) (cHi_zero f) b.length (Nat.le_refl _)
  unfold sHi wLo wHi
  rw [← this]
  congr 1
  exact List.map_congr_left fun m _ => highS_c f m
theorem beyLo_c (l : List Sk) (b : List Tk) (n : Int) (i : Nat) : beyLo l b n i = cLo (overF n) (l[i]?.getD zeroSk) (wLo b i) (wHi b i) := rfl
theorem beyHi_c (l : List Sk) (b : List Tk) (n : Int) (i : Nat) : beyHi l b n i = cHi (overF n) (l[i]?.getD zeroSk) (wLo b i) (wHi b i) := rfl
theorem wLe {b : List Tk} (h : okB b) (i : Nat) : wLo b i ≤ wHi b i := by
  unfold wLo wHi
  have gen : ∀ n, n ≤ b.length → psum (loK (i : Int)) b n ≤ psum (hiK (i : Int)) b n := by
    intro n
    induction n with
    | zero => intro _; simp [psum_zero]
    | succ n ih =>
      intro hn
      have := ih (by omega)
      have := h.2 b[n] (List.getElem_mem _)
      rw [psum_succ _ b n hn, psum_succ _ b n hn]
      simp only [loK, hiK]
      split <;> omega
  exact gen _ (Nat.le_refl _)
/-- Parts: numbers that are not negative. -/
theorem cLo_pos {f : Int → Int → Int → Int} {s : Sk} {lo hi : Int} (h : 0 ≤ lo ∧ lo ≤ hi) (hf : ∀ k, 0 ≤ f (s.cw k) (s.cc k) (s.cl k)) : cLo f s lo hi = lo * lstF (fun k => f (s.cw k) (s.cc k) (s.cl k)) 8 := by
  have gen : ∀ n, 0 < n → mnF (fun k => min (lo * f (s.cw k) (s.cc k) (s.cl k)) (hi * f (s.cw k) (s.cc k) (s.cl k))) n = lo * lstF (fun k => f (s.cw k) (s.cc k) (s.cl k)) n := by
    intro n hn
    have e : ∀ k, min (lo * f (s.cw k) (s.cc k) (s.cl k)) (hi * f (s.cw k) (s.cc k) (s.cl k)) = lo * f (s.cw k) (s.cc k) (s.cl k) := fun k => by
      have := Int.mul_le_mul_of_nonneg_right h.2 (hf k)
      omega
    simp only [e]
    induction n with
    | zero => omega
    | succ n ih =>
      simp only [mnF, lstF]
      split
      · rename_i h0; subst h0; simp [lstF]
      · rw [ih (by omega)]
        rcases Int.le_total (lstF (fun k => f (s.cw k) (s.cc k) (s.cl k)) n) (f (s.cw n) (s.cc n) (s.cl n)) with h1 | h1
        · rw [Int.min_eq_left h1, Int.min_eq_left (Int.mul_le_mul_of_nonneg_left h1 h.1)]
        · rw [Int.min_eq_right h1, Int.min_eq_right (Int.mul_le_mul_of_nonneg_left h1 h.1)]
  exact gen 8 (by omega)
theorem cHi_pos {f : Int → Int → Int → Int} {s : Sk} {lo hi : Int} (h : 0 ≤ lo ∧ lo ≤ hi) (hf : ∀ k, 0 ≤ f (s.cw k) (s.cc k) (s.cl k)) : cHi f s lo hi = hi * mstF (fun k => f (s.cw k) (s.cc k) (s.cl k)) 8 := by
  have gen : ∀ n, 0 < n → mxF (fun k => max (lo * f (s.cw k) (s.cc k) (s.cl k)) (hi * f (s.cw k) (s.cc k) (s.cl k))) n = hi * mstF (fun k => f (s.cw k) (s.cc k) (s.cl k)) n := by
    intro n hn
    have e : ∀ k, max (lo * f (s.cw k) (s.cc k) (s.cl k)) (hi * f (s.cw k) (s.cc k) (s.cl k)) = hi * f (s.cw k) (s.cc k) (s.cl k) := fun k => by
      have := Int.mul_le_mul_of_nonneg_right h.2 (hf k)
      omega
    simp only [e]
    induction n with
    | zero => omega
    | succ n ih =>
      simp only [mxF, mstF]
      split
      · rename_i h0; subst h0; simp only [mstF]; rw [Int.max_eq_right (hf 0)]
      · rw [ih (by omega)]
        rcases Int.le_total (mstF (fun k => f (s.cw k) (s.cc k) (s.cl k)) n) (f (s.cw n) (s.cc n) (s.cl n)) with h1 | h1
        · rw [Int.max_eq_right h1, Int.max_eq_right (Int.mul_le_mul_of_nonneg_left h1 (by omega))]
        · rw [Int.max_eq_left h1, Int.max_eq_left (Int.mul_le_mul_of_nonneg_left h1 (by omega))]
  exact gen 8 (by omega)
theorem okL.get {l : List Sk} (h : okL l) {i : Nat} (hi : i < l.length) : okSk (l[i]?.getD zeroSk) := by
  rw [List.getElem?_eq_getElem hi, Option.getD_some]
  exact h.2 _ (List.getElem_mem _)
theorem sLo_part {l : List Sk} {b : List Tk} (hl : okL l) (hb : okB b) (kd : Int) : sLo (ofF kd) l b = isum (partLo kd l b) l.length :=
  isum_congr _ fun i hi => by
    dsimp only [partLo]
    rw [cLo_pos ⟨(wB hb i).1.1, wLe hb i⟩ (fun k => (ofB ((hl.get hi).corner k)).1)]
    rfl
theorem sHi_part {l : List Sk} {b : List Tk} (hl : okL l) (hb : okB b) (kd : Int) : sHi (ofF kd) l b = isum (partHi kd l b) l.length :=
  isum_congr _ fun i hi => by
    dsimp only [partHi]
    rw [cHi_pos ⟨(wB hb i).1.1, wLe hb i⟩ (fun k => (ofB ((hl.get hi).corner k)).1)]
    rfl
theorem cw_two (s : Sk) (k : Nat) : s.cw k = s.w.lo ∨ s.cw k = s.w.hi := by unfold Sk.cw; split <;> simp
theorem sLo_lack {l : List Sk} {b : List Tk} (hl : okL l) (hb : okB b) (n : Int) : sLo (fun w _ _ => n - w) l b = isum (lackLo l b n) l.length :=
  isum_congr _ fun i hi => by
    have hs := (hl.get hi).1
    have hw := wB hb i
    have hle := wLe hb i
    dsimp only [lackLo, cLo]
    generalize l[i]?.getD zeroSk = s at hs ⊢
    have key : ∀ w, s.w.lo ≤ w → w ≤ s.w.hi → min (wLo b i * (n - s.w.hi)) (wHi b i * (n - s.w.hi)) ≤ min (wLo b i * (n - w)) (wHi b i * (n - w)) := fun w h1 h2 => by
      have q1 := Int.mul_le_mul_of_nonneg_left (show n - s.w.hi ≤ n - w by omega) hw.1.1
      have q2 := Int.mul_le_mul_of_nonneg_left (show n - s.w.hi ≤ n - w by omega) hw.2.1
      omega
    have h1 := mnF_le (fun k => min (wLo b i * (n - s.cw k)) (wHi b i * (n - s.cw k))) 8 1 (by omega)
    obtain ⟨j, hj, ej⟩ := mnF_at (fun k => min (wLo b i * (n - s.cw k)) (wHi b i * (n - s.cw k))) 8 (by omega)
    have e1 : s.cw 1 = s.w.hi := rfl
    have h2 := key (s.cw j) (by rcases cw_two s j with h | h <;> omega) (by rcases cw_two s j with h | h <;> omega)
    rw [e1] at h1
    omega
theorem sHi_lack {l : List Sk} {b : List Tk} (hl : okL l) (hb : okB b) (n : Int) : sHi (fun w _ _ => n - w) l b = isum (lackHi l b n) l.length :=
  isum_congr _ fun i hi => by
    have hs := (hl.get hi).1
    have hw := wB hb i
    have hle := wLe hb i
    dsimp only [lackHi, cHi]
    generalize l[i]?.getD zeroSk = s at hs ⊢
    have key : ∀ w, s.w.lo ≤ w → w ≤ s.w.hi → max (wLo b i * (n - w)) (wHi b i * (n - w)) ≤ max (wLo b i * (n - s.w.lo)) (wHi b i * (n - s.w.lo)) := fun w h1 h2 => by
      have q1 := Int.mul_le_mul_of_nonneg_left (show n - w ≤ n - s.w.lo by omega) hw.1.1
      have q2 := Int.mul_le_mul_of_nonneg_left (show n - w ≤ n - s.w.lo by omega) hw.2.1
      omega
    have h1 := mxF_le (fun k => max (wLo b i * (n - s.cw k)) (wHi b i * (n - s.cw k))) 8 0 (by omega)
    obtain ⟨j, hj, ej⟩ := mxF_at (fun k => max (wLo b i * (n - s.cw k)) (wHi b i * (n - s.cw k))) 8 (by omega)
    have e1 : s.cw 0 = s.w.lo := rfl
    have h2 := key (s.cw j) (by rcases cw_two s j with h | h <;> omega) (by rcases cw_two s j with h | h <;> omega)
    rw [e1] at h1
    omega
/-! ### Beyond a share: the greater the share, the less -/
theorem isum_mono {f g : Nat → Int} : ∀ n, (∀ j, j < n → f j ≤ g j) → isum f n ≤ isum g n
  | 0, _ => Int.le_refl _
  | n + 1, h => by
    have := isum_mono n (fun j hj => h j (by omega))
    have := h n (by omega)
    simp only [isum]; omega
theorem cLo_mono {f g : Int → Int → Int → Int} {s : Sk} {lo hi : Int} (h : 0 ≤ lo ∧ lo ≤ hi) (hf : ∀ k, f (s.cw k) (s.cc k) (s.cl k) ≤ g (s.cw k) (s.cc k) (s.cl k)) : cLo f s lo hi ≤ cLo g s lo hi := by
  unfold cLo
  obtain ⟨j, hj, ej⟩ := mnF_at (fun k => min (lo * g (s.cw k) (s.cc k) (s.cl k)) (hi * g (s.cw k) (s.cc k) (s.cl k))) 8 (by omega)
  have h1 := mnF_le (fun k => min (lo * f (s.cw k) (s.cc k) (s.cl k)) (hi * f (s.cw k) (s.cc k) (s.cl k))) 8 j hj
  have q1 := Int.mul_le_mul_of_nonneg_left (hf j) h.1
  have q2 := Int.mul_le_mul_of_nonneg_left (hf j) (show 0 ≤ hi by omega)
  omega
theorem cHi_mono {f g : Int → Int → Int → Int} {s : Sk} {lo hi : Int} (h : 0 ≤ lo ∧ lo ≤ hi) (hf : ∀ k, f (s.cw k) (s.cc k) (s.cl k) ≤ g (s.cw k) (s.cc k) (s.cl k)) : cHi f s lo hi ≤ cHi g s lo hi := by
  unfold cHi
  obtain ⟨j, hj, ej⟩ := mxF_at (fun k => max (lo * f (s.cw k) (s.cc k) (s.cl k)) (hi * f (s.cw k) (s.cc k) (s.cl k))) 8 (by omega)
  have h1 := mxF_le (fun k => max (lo * g (s.cw k) (s.cc k) (s.cl k)) (hi * g (s.cw k) (s.cc k) (s.cl k))) 8 j hj
  have q1 := Int.mul_le_mul_of_nonneg_left (hf j) h.1
  have q2 := Int.mul_le_mul_of_nonneg_left (hf j) (show 0 ≤ hi by omega)
  omega
def bLo (l : List Sk) (b : List Tk) (n : Int) : Int := isum (beyLo l b n) l.length
def bHi (l : List Sk) (b : List Tk) (n : Int) : Int := isum (beyHi l b n) l.length
theorem overF_anti {m n w c l : Int} (h : m ≤ n) (hs : okSt w c l) : overF n w c l ≤ overF m w c l := by
  have := Int.mul_le_mul_of_nonneg_right h (leadB hs).1
  unfold overF; omega
theorem bLo_anti {l : List Sk} {b : List Tk} (hl : okL l) (hb : okB b) {m n : Int} (h : m ≤ n) : bLo l b n ≤ bLo l b m :=
  isum_mono _ fun i hi => by
    rw [beyLo_c, beyLo_c]
    exact cLo_mono ⟨(wB hb i).1.1, wLe hb i⟩ fun k => overF_anti h ((hl.get hi).corner k)
theorem bHi_anti {l : List Sk} {b : List Tk} (hl : okL l) (hb : okB b) {m n : Int} (h : m ≤ n) : bHi l b n ≤ bHi l b m :=
  isum_mono _ fun i hi => by
    rw [beyHi_c, beyHi_c]
    exact cHi_mono ⟨(wB hb i).1.1, wLe hb i⟩ fun k => overF_anti h ((hl.get hi).corner k)
end Go.Proofs.Ytmcejcidbekpkaa
