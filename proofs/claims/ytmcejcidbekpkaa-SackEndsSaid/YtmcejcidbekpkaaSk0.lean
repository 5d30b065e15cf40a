/-
  Plain arithmetic for the sack. No program in sight.
-/
set_option linter.unusedVariables false
namespace Go.Proofs.Ytmcejcidbekpkaa

theorem mulB {a b A B : Int} (ha : 0 ≤ a ∧ a ≤ A) (hb : 0 ≤ b ∧ b ≤ B) : 0 ≤ a * b ∧ a * b ≤ A * B :=
  ⟨Int.mul_nonneg ha.1 hb.1, Int.mul_le_mul ha.2 hb.2 hb.1 (Int.le_trans ha.1 ha.2)⟩

/-- What a sack truly is: water, carbon, loss. -/
def okSt (w c l : Int) : Prop := (0 ≤ w ∧ w ≤ 1000) ∧ (0 ≤ c ∧ c ≤ 1000) ∧ (0 ≤ l ∧ l ≤ 1000)
def dropsF (w c l : Int) : Int := w * 1000 * 1000
def coalF (w c l : Int) : Int := (1000 - w) * c * 1000
def smokeF (w c l : Int) : Int := (1000 - w) * (1000 - c) * l
def bakedF (w c l : Int) : Int := (1000 - w) * (1000 - c) * (1000 - l)
def leadF (w c l : Int) : Int := coalF w c l + bakedF w c l
def overF (n w c l : Int) : Int := 1000 * coalF w c l - n * leadF w c l

theorem coalB {w c l : Int} (h : okSt w c l) : 0 ≤ (1000 - w) * c ∧ (1000 - w) * c ≤ 1000000 := by
  obtain ⟨hw, hc, hl⟩ := h
  exact mulB (A := 1000) (B := 1000) ⟨by omega, by omega⟩ hc
theorem ashB {w c l : Int} (h : okSt w c l) : 0 ≤ (1000 - w) * (1000 - c) ∧ (1000 - w) * (1000 - c) ≤ 1000000 := by
  obtain ⟨hw, hc, hl⟩ := h
  exact mulB (A := 1000) (B := 1000) ⟨by omega, by omega⟩ ⟨by omega, by omega⟩
theorem smokeB {w c l : Int} (h : okSt w c l) : 0 ≤ smokeF w c l ∧ smokeF w c l ≤ 1000000000 :=
  mulB (A := 1000000) (B := 1000) (ashB h) h.2.2
theorem bakedB {w c l : Int} (h : okSt w c l) : 0 ≤ bakedF w c l ∧ bakedF w c l ≤ 1000000000 :=
  mulB (A := 1000000) (B := 1000) (ashB h) ⟨by have := h.2.2; omega, by have := h.2.2; omega⟩
theorem coalFB {w c l : Int} (h : okSt w c l) : 0 ≤ coalF w c l ∧ coalF w c l ≤ 1000000000 := by
  have := coalB h
  unfold coalF; omega
theorem dropsB {w c l : Int} (h : okSt w c l) : 0 ≤ dropsF w c l ∧ dropsF w c l ≤ 1000000000 := by
  have := h.1
  unfold dropsF; omega
theorem leadB {w c l : Int} (h : okSt w c l) : 0 ≤ leadF w c l ∧ leadF w c l ≤ 2000000000 := by
  have h1 := coalFB h
  have h2 := bakedB h
  unfold leadF; omega
theorem nleadB {n w c l : Int} (hn : 0 ≤ n ∧ n ≤ 1000) (h : okSt w c l) : 0 ≤ n * leadF w c l ∧ n * leadF w c l ≤ 2000000000000 :=
  mulB (A := 1000) (B := 2000000000) hn (leadB h)
theorem overB {n w c l : Int} (hn : 0 ≤ n ∧ n ≤ 1000) (h : okSt w c l) : -2000000000000 ≤ overF n w c l ∧ overF n w c l ≤ 1000000000000 := by
  have h1 := coalFB h
  have h2 := nleadB hn h
  unfold overF; omega

/-- Rounding down. -/
theorem tdiv_floor {n d : Int} (hd : 0 < d) : (if n.tmod d < 0 then n.tdiv d - 1 else n.tdiv d) = n / d := by
  have h1 := Int.mul_tdiv_add_tmod n d
  have h2 := Int.mul_ediv_add_emod n d
  have h3 := Int.emod_nonneg n (by omega : d ≠ 0)
  have h4 := Int.emod_lt_of_pos n hd
  have h5 := Int.tmod_lt_of_pos n hd
  have h6 : -d < n.tmod d := by
    have := Int.lt_tmod_of_pos n hd
    omega
  have key : ∀ q r q' r' : Int, d * q + r = n → d * q' + r' = n → 0 ≤ r' → r' < d → r < d → -d < r → (if r < 0 then q - 1 else q) = q' := by
    intro q r q' r' e1 e2 a1 a2 a3 a4
    split
    · rename_i hr
      have e : d * (q - 1 - q') = r' - (r + d) := by
        rw [Int.mul_sub, Int.mul_sub]; omega
      have : q - 1 - q' = 0 := by
        rcases Int.lt_trichotomy (q - 1 - q') 0 with h | h | h
        · have := Int.mul_le_mul_of_nonneg_left (show q - 1 - q' ≤ -1 by omega) (Int.le_of_lt hd)
          omega
        · exact h
        · have := Int.mul_le_mul_of_nonneg_left (show 1 ≤ q - 1 - q' by omega) (Int.le_of_lt hd)
          omega
      omega
    · rename_i hr
      have e : d * (q - q') = r' - r := by
        rw [Int.mul_sub]; omega
      have : q - q' = 0 := by
        rcases Int.lt_trichotomy (q - q') 0 with h | h | h
        · have := Int.mul_le_mul_of_nonneg_left (show q - q' ≤ -1 by omega) (Int.le_of_lt hd)
          omega
        · exact h
        · have := Int.mul_le_mul_of_nonneg_left (show 1 ≤ q - q' by omega) (Int.le_of_lt hd)
          omega
      omega
  exact key _ _ _ _ h1 h2 h3 h4 h5 h6
theorem tdiv_le {n d B : Int} (hd : 0 < d) (hn : -B ≤ n ∧ n ≤ B) : -B ≤ n.tdiv d ∧ n.tdiv d ≤ B := by
  have h1 := Int.natAbs_tdiv_le_natAbs n d
  omega
theorem tdiv_mul {n d : Int} (hd : 0 < d) : (decide (n < n.tdiv d * d)) = decide (n.tmod d < 0) := by
  have h1 := Int.mul_tdiv_add_tmod n d
  rw [Int.mul_comm] at h1
  by_cases h : n.tmod d < 0
  · rw [decide_eq_true h, decide_eq_true]; omega
  · rw [decide_eq_false h, decide_eq_false]; omega
theorem ediv_B {n d B : Int} (hd : 0 < d) (hB : 0 ≤ B) (hn : -B ≤ n ∧ n ≤ B) : -B - 1 ≤ n / d ∧ n / d ≤ B := by
  have h1 := tdiv_le hd hn
  have h2 := tdiv_floor (n := n) hd
  split at h2 <;> omega
/-- How much of a kind there is. -/
def ofF (k w c l : Int) : Int := if k = 0 then dropsF w c l else if k = 1 then coalF w c l else if k = 2 then smokeF w c l else if k = 3 then bakedF w c l else leadF w c l
theorem ofB {k w c l : Int} (h : okSt w c l) : 0 ≤ ofF k w c l ∧ ofF k w c l ≤ 2000000000 := by
  have h1 := dropsB h
  have h2 := coalFB h
  have h3 := smokeB h
  have h4 := bakedB h
  have h5 := leadB h
  unfold ofF
  split
  · omega
  · split
    · omega
    · split
      · omega
      · split <;> omega

/-- Where a predicate first holds; -1: nowhere. -/
def idxF {α : Type} (p : α → Bool) : List α → Int
  | [] => -1
  | x :: xs => if p x then 0 else let r := idxF p xs; if r < 0 then -1 else r + 1
theorem idxF_at {α : Type} (p : α → Bool) : ∀ (xs : List α) (i : Nat) (h : i < xs.length), (∀ j (hj : j < i), p (xs[j]'(by omega)) = false) → p xs[i] = true → idxF p xs = i
  | x :: xs, 0, h, h1, h2 => by simp at h2; simp [idxF, h2]
  | x :: xs, i + 1, h, h1, h2 => by
    have h3 := h1 0 (by omega)
    simp at h3
    have ih := idxF_at p xs i (by simpa using h) (fun j hj => by have := h1 (j + 1) (by omega); simpa using this) (by simpa using h2)
    simp only [idxF, h3, ih]
    simp
    omega
theorem idxF_none {α : Type} (p : α → Bool) : ∀ xs : List α, (∀ j (hj : j < xs.length), p xs[j] = false) → idxF p xs = -1
  | [], _ => rfl
  | x :: xs, h => by
    have h3 := h 0 (by simp)
    simp at h3
    have ih := idxF_none p xs (fun j hj => by have := h (j + 1) (by simpa using hj); simpa using this)
    simp [idxF, h3, ih]
theorem idxF_any {α : Type} (p : α → Bool) : ∀ xs : List α, decide (0 ≤ idxF p xs) = xs.any p
  | [] => rfl
  | x :: xs => by
    have ih := idxF_any p xs
    simp only [idxF, List.any_cons, ← ih]
    cases p x with
    | true => simp
    | false =>
      simp
      split
      · simp; omega
      · omega

theorem any_at {α : Type} {p : α → Bool} {xs : List α} {i : Nat} (h : i < xs.length) (hp : p xs[i] = true) : xs.any p = true := List.any_eq_true.2 ⟨xs[i], List.getElem_mem h, hp⟩
theorem any_none {α : Type} {p : α → Bool} {xs : List α} (h : ∀ j (hj : j < xs.length), p xs[j] = false) : xs.any p = false := by
  rw [List.any_eq_false]
  intro x hx
  obtain ⟨j, hj, rfl⟩ := List.getElem_of_mem hx
  simp [h j hj]

/-- A sum over the first ones of a list. -/
def psum {α : Type} (f : α → Int) (b : List α) (i : Nat) : Int := ((b.take i).map f).sum
theorem psum_zero {α : Type} (f : α → Int) (b : List α) : psum f b 0 = 0 := by simp [psum]
theorem psum_succ {α : Type} (f : α → Int) (b : List α) (i : Nat) (h : i < b.length) : psum f b (i + 1) = psum f b i + f b[i] := by
  unfold psum
  rw [← List.take_append_getElem h, List.map_append, List.sum_append]
  simp
theorem psum_all {α : Type} (f : α → Int) (b : List α) : psum f b b.length = (b.map f).sum := by simp [psum]
theorem psum_B {α : Type} {f : α → Int} {b : List α} {A B : Int} (h : ∀ t ∈ b, A ≤ f t ∧ f t ≤ B) : ∀ i, i ≤ b.length → A * i ≤ psum f b i ∧ psum f b i ≤ B * i
  | 0, _ => by rw [psum_zero]; simp
  | i + 1, hi => by
    have ih := psum_B h i (by omega)
    have h1 := h b[i] (List.getElem_mem _)
    rw [psum_succ f b i hi]
    have e1 : A * ((i + 1 : Nat) : Int) = A * i + A := by rw [show ((i + 1 : Nat) : Int) = (i : Int) + 1 by omega, Int.mul_add, Int.mul_one]
    have e2 : B * ((i + 1 : Nat) : Int) = B * i + B := by rw [show ((i + 1 : Nat) : Int) = (i : Int) + 1 by omega, Int.mul_add, Int.mul_one]
    rw [e1, e2]
    omega

theorem mulA {a b A B : Int} (hA : -A ≤ a ∧ a ≤ A) (hb : 0 ≤ b ∧ b ≤ B) : -(B * A) ≤ b * a ∧ b * a ≤ B * A := by
  have hA0 : 0 ≤ A := by omega
  have h1 : b * a ≤ b * A := Int.mul_le_mul_of_nonneg_left hA.2 hb.1
  have h2 : b * A ≤ B * A := Int.mul_le_mul_of_nonneg_right hb.2 hA0
  have h3 : b * (-A) ≤ b * a := Int.mul_le_mul_of_nonneg_left hA.1 hb.1
  rw [Int.mul_neg] at h3
  omega
/-- The least and the greatest of the first ones. -/
def mnF (f : Nat → Int) : Nat → Int
  | 0 => 0
  | n + 1 => if n = 0 then f 0 else min (mnF f n) (f n)
def mxF (f : Nat → Int) : Nat → Int
  | 0 => 0
  | n + 1 => if n = 0 then f 0 else max (mxF f n) (f n)

theorem mnF_B {f : Nat → Int} {A B : Int} : ∀ n, 0 < n → (∀ j, j < n → A ≤ f j ∧ f j ≤ B) → A ≤ mnF f n ∧ mnF f n ≤ B
  | 0, h, _ => by omega
  | n + 1, _, h => by
    have h1 := h n (by omega)
    simp only [mnF]
    split
    · rename_i h0; exact h 0 (by omega)
    · rename_i h0
      have ih := mnF_B n (by omega) (fun j hj => h j (by omega))
      omega
theorem mxF_B {f : Nat → Int} {A B : Int} : ∀ n, 0 < n → (∀ j, j < n → A ≤ f j ∧ f j ≤ B) → A ≤ mxF f n ∧ mxF f n ≤ B
  | 0, h, _ => by omega
  | n + 1, _, h => by
    have h1 := h n (by omega)
    simp only [mxF]
    split
    · rename_i h0; exact h 0 (by omega)
    · rename_i h0
      have ih := mxF_B n (by omega) (fun j hj => h j (by omega))
      omega
theorem sum_snoc {α : Type} (f : α → Int) (d : List α) (m : α) : ((d ++ [m]).map f).sum = (d.map f).sum + f m := by simp
theorem sum_erase {α : Type} (f : α → Int) : ∀ (r : List α) (j : Nat) (m : α), r[j]? = some m → (r.map f).sum = f m + ((r.eraseIdx j).map f).sum
  | [], j, m, h => by simp at h
  | x :: r, 0, m, h => by simp at h; subst h; simp
  | x :: r, j + 1, m, h => by
    have ih := sum_erase f r j m (by simpa using h)
    simp only [List.map_cons, List.sum_cons, List.eraseIdx_cons_succ, ih]
    omega
theorem sum_nonneg {α : Type} {f : α → Int} : ∀ {r : List α}, (∀ m ∈ r, 0 ≤ f m) → 0 ≤ (r.map f).sum
  | [], _ => by simp
  | x :: r, h => by
    have h1 := h x (by simp)
    have h2 := sum_nonneg (f := f) (r := r) (fun m hm => h m (by simp [hm]))
    simp only [List.map_cons, List.sum_cons]
    omega
theorem mem_le_sum {α : Type} {f : α → Int} : ∀ {r : List α} {x : α}, (∀ m ∈ r, 0 ≤ f m) → x ∈ r → f x ≤ (r.map f).sum
  | [], _, _, h => by cases h
  | y :: r, x, h, hx => by
    have h1 := h y (by simp)
    have h2 := sum_nonneg (f := f) (r := r) (fun m hm => h m (by simp [hm]))
    simp only [List.map_cons, List.sum_cons]
    rcases List.mem_cons.1 hx with rfl | hx
    · omega
    · have := mem_le_sum (f := f) (fun m hm => h m (by simp [hm])) hx
      omega
theorem sum_scale {α : Type} {f g : α → Int} {X : Int} : ∀ {r : List α}, (∀ m ∈ r, -(X * g m) ≤ f m ∧ f m ≤ X * g m) → -(X * (r.map g).sum) ≤ (r.map f).sum ∧ (r.map f).sum ≤ X * (r.map g).sum
  | [], _ => by simp
  | x :: r, h => by
    have h1 := h x (by simp)
    have h2 := sum_scale (r := r) (fun m hm => h m (by simp [hm]))
    simp only [List.map_cons, List.sum_cons, Int.mul_add]
    omega

/-- A sum by numbers. -/
def isum (f : Nat → Int) : Nat → Int
  | 0 => 0
  | n + 1 => isum f n + f n
theorem isum_B {f : Nat → Int} {A B : Int} : ∀ n, (∀ j, j < n → A ≤ f j ∧ f j ≤ B) → A * n ≤ isum f n ∧ isum f n ≤ B * n
  | 0, _ => by simp [isum]
  | n + 1, h => by
    have ih := isum_B n (fun j hj => h j (by omega))
    have h1 := h n (by omega)
    simp only [isum]
    have e1 : A * ((n + 1 : Nat) : Int) = A * n + A := by rw [show ((n + 1 : Nat) : Int) = (n : Int) + 1 by omega, Int.mul_add, Int.mul_one]
    have e2 : B * ((n + 1 : Nat) : Int) = B * n + B := by rw [show ((n + 1 : Nat) : Int) = (n : Int) + 1 by omega, Int.mul_add, Int.mul_one]
    rw [e1, e2]
    omega
theorem leadB2 {w c l : Int} (h : okSt w c l) : 0 ≤ leadF w c l ∧ leadF w c l ≤ 1000000000 := by
  obtain ⟨hw, hc, hl⟩ := h
  have h1 : 0 ≤ (1000 - c) * (1000 - l) ∧ (1000 - c) * (1000 - l) ≤ (1000 - c) * 1000 :=
    ⟨Int.mul_nonneg (by omega) (by omega), Int.mul_le_mul_of_nonneg_left (by omega) (by omega)⟩
  have h2 := mulB (a := 1000 - w) (A := 1000) (b := c * 1000 + (1000 - c) * (1000 - l)) (B := 1000000) ⟨by omega, by omega⟩ ⟨by omega, by omega⟩
  have e : leadF w c l = (1000 - w) * (c * 1000 + (1000 - c) * (1000 - l)) := by
    unfold leadF coalF bakedF
    rw [Int.mul_add, Int.mul_assoc, Int.mul_assoc]
  rw [e]
  omega
theorem overB2 {n w c l : Int} (hn : 0 ≤ n ∧ n ≤ 1000) (h : okSt w c l) : -1000000000000 ≤ overF n w c l ∧ overF n w c l ≤ 1000000000000 := by
  have h1 := coalFB h
  have h2 := mulB (a := n) (A := 1000) hn (leadB2 h)
  unfold overF; omega
end Go.Proofs.Ytmcejcidbekpkaa
