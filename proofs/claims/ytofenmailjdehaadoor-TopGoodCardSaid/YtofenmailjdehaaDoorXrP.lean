/-
  Plain data of chapter 6: crates, looks, sets, truths, and what is known of a crate. No program in sight.
-/
import Derived.Test.YtofenmailjdehaaDoorRcS
set_option linter.unusedVariables false
set_option linter.unusedSimpArgs false
namespace Go.Proofs.YtofenmailjdehaaDoor
open Go.AF
structure Crt where
  rows : List Int
  cols : Int
  clamps : Int
  dies : Int
def crC (c : Crt) : List PV := [intsV c.rows, .int .i64 c.cols, .int .i64 c.clamps, .int .i64 c.dies]
def crV (c : Crt) : PV := .agg (crC c)
structure Lk where
  r : Int
  c : Int
  s : Int
def Lk.cells (x : Lk) : List PV := [.int .i64 x.r, .int .i64 x.c, .int .i64 x.s]
def lksV (l : List Lk) : PV := .is (l.flatMap Lk.cells) l.length
def lkt (l : List Lk) (i : Nat) : Lk := l.getD i ⟨0, 0, 0⟩
theorem lkt_get {l : List Lk} : ∀ k (h : k < l.length), l[k] = lkt l k := fun k h => by
  unfold lkt
  rw [List.getD_eq_getElem?_getD, List.getElem?_eq_getElem h]; rfl
theorem lkt_mem {l : List Lk} {k : Nat} (h : k < l.length) : lkt l k ∈ l := by rw [← lkt_get k h]; exact List.getElem_mem _
/-! ### What is valid -/
def crB (c : Crt) : Bool := inB (c.rows.length : Int) 1 8 && inB c.cols 1 8 && !(c.rows.any fun n => !inB n 1 1000) && inB c.clamps 0 3 && inB c.dies 0 3
theorem crB_of {c : Crt} (h : crB c = true) : (1 ≤ c.rows.length ∧ c.rows.length ≤ 8) ∧ (1 ≤ c.cols ∧ c.cols ≤ 8) ∧ (∀ n ∈ c.rows, 1 ≤ n ∧ n ≤ 1000) ∧ (0 ≤ c.clamps ∧ c.clamps ≤ 3) ∧ 0 ≤ c.dies ∧ c.dies ≤ 3 := by
  unfold crB at h
  simp only [Bool.and_eq_true, inB, decide_eq_true_eq, Bool.not_eq_true', List.any_eq_false, Bool.not_eq_true', Bool.not_eq_false'] at h
  obtain ⟨⟨⟨⟨h1, h2⟩, h3⟩, h4⟩, h5⟩ := h
  refine ⟨by omega, h2, fun n hn => ?_, h4, h5⟩
  have := h3 n hn
  simpa using this
def plB (c : Crt) (r k : Int) : Bool := inB r 0 ((c.rows.length : Int) - 1) && inB k 0 (c.cols - 1)
def wrB (c : Crt) (x : Lk) : Bool := !plB c x.r x.c || !inB x.s 0 2
theorem wrB_of {c : Crt} {x : Lk} (h : wrB c x = false) : (0 ≤ x.r ∧ x.r < c.rows.length) ∧ (0 ≤ x.c ∧ x.c < c.cols) ∧ 0 ≤ x.s ∧ x.s ≤ 2 := by
  unfold wrB plB inB at h
  simp at h
  omega
/-! ### Sets -/
def szN (s : Nat) : Nat := (bitsN s 8).length
theorem szN_le (s : Nat) : szN s ≤ 8 := by
  unfold szN bitsN
  exact Nat.le_trans (List.length_filter_le _ _) (by rw [List.length_range]; exact Nat.le_refl _)
def setQ (m : Int) (s : Nat) : Bool := decide ((szN s : Int) ≤ m)
def setF (m : Int) (p : Nat) : List Nat := (List.range p).filter (setQ m)
def setsL (n : Nat) (m : Int) : List Nat := setF m (2 ^ n)
theorem setF_T {m : Int} {p : Nat} (h : setQ m p = true) : setF m (p + 1) = setF m p ++ [p] := by
  unfold setF; rw [List.range_succ, List.filter_append]; simp [h]
theorem setF_F {m : Int} {p : Nat} (h : setQ m p = false) : setF m (p + 1) = setF m p := by
  unfold setF; rw [List.range_succ, List.filter_append]; simp [h]
theorem setF_pre (m : Int) {p q : Nat} (h : p ≤ q) : setF m p <+: setF m q := by
  induction q with
  | zero => rw [show p = 0 by omega]; exact List.prefix_refl _
  | succ q ih =>
    rcases Nat.lt_or_ge p (q + 1) with h1 | h1
    · refine (ih (by omega)).trans ?_
      cases hq : setQ m q with
      | true => rw [setF_T hq]; exact List.prefix_append _ _
      | false => rw [setF_F hq]; exact List.prefix_refl _
    · obtain rfl : p = q + 1 := by omega
      exact List.prefix_refl _
def setX (l : List Nat) : List (List V) := l.map fun k => [V.p (.int .i64 ((k : Nat) : Int))]
theorem setX_at {n : Nat} {m : Int} {p : Nat} (hp : p < 2 ^ n) (h : setQ m p = true) : (setX (setsL n m))[(setF m p).length]? = some [V.p (.int .i64 ((p : Nat) : Int))] := by
  have h1 := setF_pre m (show p + 1 ≤ 2 ^ n by omega)
  rw [setF_T h] at h1
  obtain ⟨t, ht⟩ := h1
  unfold setX setsL
  rw [← ht, List.getElem?_map]
  simp
theorem setX_get {l : List Nat} {k : Nat} {x : List V} (h : (setX l)[k]? = some x) : ∃ q, l[k]? = some q ∧ x = [V.p (.int .i64 ((q : Nat) : Int))] := by
  unfold setX at h
  rw [List.getElem?_map, Option.map_eq_some_iff] at h
  obtain ⟨q, h1, h2⟩ := h
  exact ⟨q, h1, h2.symm⟩
theorem setX_len (l : List Nat) : (setX l).length = l.length := by unfold setX; rw [List.length_map]
theorem sets_mem {n : Nat} {m : Int} {s : Nat} : s ∈ setsL n m ↔ s < 2 ^ n ∧ (szN s : Int) ≤ m := by
  unfold setsL setF setQ
  simp
theorem sets_len (n : Nat) (m : Int) : (setsL n m).length ≤ 2 ^ n := by
  unfold setsL setF
  exact Nat.le_trans (List.length_filter_le _ _) (by rw [List.length_range]; exact Nat.le_refl _)
/-! ### Counting bits -/
def oc1 (x : Nat) : Nat := (x / 2 ^ 1 &&& 6148914691236517205) + (x &&& 6148914691236517205)
def oc2 (x : Nat) : Nat := (oc1 x / 2 ^ 2 &&& 3689348814741910323) + (oc1 x &&& 3689348814741910323)
def oc3 (x : Nat) : Nat := oc2 x / 2 ^ 4 + oc2 x &&& 1085102592571150095
def oc4 (x : Nat) : Nat := oc3 x + oc3 x / 2 ^ 8
def oc5 (x : Nat) : Nat := oc4 x + oc4 x / 2 ^ 16
def oc6 (x : Nat) : Nat := oc5 x + oc5 x / 2 ^ 32
theorem oc_all : ((List.range 256).all fun x => decide (oc6 x &&& 127 = szN x) && decide (oc1 x < 65536) && decide (oc2 x < 65536) && decide (oc3 x < 65536) && decide (oc4 x < 65536) && decide (oc5 x < 65536) && decide (oc6 x < 65536)) = true := by kernel_rfl
theorem oc_at {x : Nat} (h : x < 256) : oc6 x &&& 127 = szN x ∧ oc1 x < 65536 ∧ oc2 x < 65536 ∧ oc3 x < 65536 ∧ oc4 x < 65536 ∧ oc5 x < 65536 ∧ oc6 x < 65536 := by
  have := List.all_eq_true.1 oc_all x (List.mem_range.2 h)
  simp only [Bool.and_eq_true, decide_eq_true_eq] at this
  omega
/-! ### Truths -/
def badB (a b : Nat) (r k : Nat) : Bool := a.testBit r || b.testBit k
def fitB (a b : Nat) (x : Lk) : Bool := if x.s = 0 then !badB a b x.r.toNat x.c.toNat else if x.s = 1 then badB a b x.r.toNat x.c.toNat else true
def manyF (c : Crt) (a b : Nat) : Nat → Int
  | 0 => 0
  | k + 1 => manyF c a b k + (if a.testBit k then nt c.rows k * c.cols else nt c.rows k * (szN b : Int))
def manyN (c : Crt) (a b : Nat) : Int := manyF c a b c.rows.length
theorem nt_mem {l : List Int} {k : Nat} (h : k < l.length) : nt l k ∈ l := by rw [← nt_get k h]; exact List.getElem_mem _
theorem many_step {c : Crt} (h : crB c = true) {b k : Nat} (hk : k < c.rows.length) : (0 ≤ nt c.rows k * c.cols ∧ nt c.rows k * c.cols ≤ 8000) ∧ 0 ≤ nt c.rows k * (szN b : Int) ∧ nt c.rows k * (szN b : Int) ≤ 8000 := by
  obtain ⟨_, ⟨h2, h3⟩, h4, _⟩ := crB_of h
  obtain ⟨h5, h6⟩ := h4 _ (nt_mem hk)
  have h7 := szN_le b
  generalize nt c.rows k = n at h5 h6 ⊢
  generalize c.cols = m at h2 h3 ⊢
  generalize szN b = z at h7 ⊢
  refine ⟨⟨Int.mul_nonneg (by omega) (by omega), ?_⟩, Int.mul_nonneg (by omega) (by omega), ?_⟩
  · have := Int.mul_le_mul h6 h3 (by omega) (by omega)
    omega
  · have := Int.mul_le_mul h6 (show (z : Int) ≤ 8 by omega) (by omega) (by omega)
    omega
theorem manyF_B {c : Crt} (h : crB c = true) (a b : Nat) : ∀ k, k ≤ c.rows.length → 0 ≤ manyF c a b k ∧ manyF c a b k ≤ (k : Int) * 8000
  | 0, _ => by unfold manyF; omega
  | k + 1, hk => by
    have h1 := manyF_B h a b k (by omega)
    obtain ⟨h2, h3⟩ := many_step h (b := b) (show k < c.rows.length by omega)
    unfold manyF
    split <;> omega
theorem manyN_B {c : Crt} (h : crB c = true) (a b : Nat) : 0 ≤ manyN c a b ∧ manyN c a b ≤ 64000 := by
  have h1 := manyF_B h a b c.rows.length (Nat.le_refl _)
  have := (crB_of h).1.2
  unfold manyN
  omega
def fitL (c : Crt) (l : List Lk) (a : Nat) : List Nat := (setsL c.cols.toNat c.dies).filter fun b => l.all (fitB a b)
def truL (c : Crt) (l : List Lk) : List (Nat × Nat) := (setsL c.rows.length c.clamps).flatMap fun a => (fitL c l a).map fun b => (a, b)
/-! ### A picture -/
structure Pic where
  cr : Nat
  cc : Nat
  sr : Nat
  sc : Nat
  lo : Int
  hi : Int
  sp : Nat → Int
  n : Nat
def picL (p : Pic) : List PV := [.int .i64 (p.cr : Int), .int .i64 (p.cc : Int), .int .i64 (p.sr : Int), .int .i64 (p.sc : Int), .int .i64 p.lo, .int .i64 p.hi] ++ (List.range 64).map (fun j => .int .i64 (p.sp j)) ++ [.int .i64 (p.n : Int)]
def visB (C r k j : Nat) : Bool := (decide (j / 8 < r) && decide (j % 8 < C)) || (decide (j / 8 = r) && decide (j % 8 < k))
def spG (sp : Nat → Int) (a b C r k : Nat) : Nat → Int := fun j => sp j + (if visB C r k j && badB a b (j / 8) (j % 8) then 1 else 0)
def picA (c : Crt) (p : Pic) (t : Nat × Nat) : Pic :=
  { cr := p.cr ||| t.1, cc := p.cc ||| t.2, sr := (if p.n = 0 then t.1 else p.sr) &&& t.1, sc := (if p.n = 0 then t.2 else p.sc) &&& t.2,
    lo := min (min (manyN c t.1 t.2) (if p.n = 0 then manyN c t.1 t.2 else p.lo)) (if p.n = 0 then manyN c t.1 t.2 else p.hi),
    hi := max (max (manyN c t.1 t.2) (if p.n = 0 then manyN c t.1 t.2 else p.lo)) (if p.n = 0 then manyN c t.1 t.2 else p.hi),
    sp := spG p.sp t.1 t.2 c.cols.toNat c.rows.length 0, n := p.n + 1 }
def pic0 : Pic := ⟨0, 0, 0, 0, 0, 0, fun _ => 0, 0⟩
def picF (c : Crt) (ts : List (Nat × Nat)) : Pic := ts.foldl (picA c) pic0
theorem picF_snoc (c : Crt) (ts : List (Nat × Nat)) (t : Nat × Nat) : picF c (ts ++ [t]) = picA c (picF c ts) t := by unfold picF; rw [List.foldl_append]; rfl
structure PicB (p : Pic) : Prop where
  cr : p.cr < 256
  cc : p.cc < 256
  sr : p.sr < 256
  sc : p.sc < 256
  lo : 0 ≤ p.lo ∧ p.lo ≤ 64000
  hi : 0 ≤ p.hi ∧ p.hi ≤ 64000
  sp : ∀ j, 0 ≤ p.sp j ∧ p.sp j ≤ p.n
theorem spG_B {sp : Nat → Int} {n : Int} (h : ∀ j, 0 ≤ sp j ∧ sp j ≤ n) (a b C r k j : Nat) : 0 ≤ spG sp a b C r k j ∧ spG sp a b C r k j ≤ n + 1 := by
  have := h j
  unfold spG
  split <;> omega
theorem picA_B {c : Crt} (hc : crB c = true) {p : Pic} (h : PicB p) {t : Nat × Nat} (h1 : t.1 < 256) (h2 : t.2 < 256) : PicB (picA c p t) := by
  have hm := manyN_B hc t.1 t.2
  have := h.lo
  have := h.hi
  refine ⟨Nat.or_lt_two_pow (n := 8) h.cr h1, Nat.or_lt_two_pow (n := 8) h.cc h2, Nat.lt_of_le_of_lt Nat.and_le_right h1, Nat.lt_of_le_of_lt Nat.and_le_right h2, ?_, ?_, fun j => ?_⟩
  · show 0 ≤ min (min _ _) _ ∧ min (min _ _) _ ≤ _
    split <;> omega
  · show 0 ≤ max (max _ _) _ ∧ max (max _ _) _ ≤ _
    split <;> omega
  · have := spG_B h.sp t.1 t.2 c.cols.toNat c.rows.length 0 j
    show 0 ≤ spG _ _ _ _ _ _ _ ∧ spG _ _ _ _ _ _ _ ≤ ((p.n + 1 : Nat) : Int)
    omega
theorem pic0_B : PicB pic0 := ⟨by decide, by decide, by decide, by decide, by decide, by decide, fun _ => ⟨Int.le_refl _, Int.le_refl _⟩⟩
theorem picF_B {c : Crt} (hc : crB c = true) : ∀ (ts : List (Nat × Nat)) (p : Pic), PicB p → (∀ t ∈ ts, t.1 < 256 ∧ t.2 < 256) → PicB (ts.foldl (picA c) p)
  | [], p, h, _ => h
  | t :: ts, p, h, ht => picF_B hc ts _ (picA_B hc h (ht t (by simp)).1 (ht t (by simp)).2) fun x hx => ht x (by simp [hx])
theorem picF_n (c : Crt) : ∀ (ts : List (Nat × Nat)) (p : Pic), (ts.foldl (picA c) p).n = p.n + ts.length
  | [], p => rfl
  | t :: ts, p => by rw [List.foldl_cons, picF_n c ts, List.length_cons]; show p.n + 1 + _ = _; omega
/-! ### The spots, one after the other -/
theorem spG_0 (sp : Nat → Int) (a b C : Nat) : spG sp a b C 0 0 = sp := by
  funext j
  unfold spG visB
  simp
theorem spG_row (sp : Nat → Int) (a b C r : Nat) : spG sp a b C r C = spG sp a b C (r + 1) 0 := by
  funext j
  unfold spG visB
  have e : ((decide (j / 8 < r) && decide (j % 8 < C)) || (decide (j / 8 = r) && decide (j % 8 < C))) = ((decide (j / 8 < r + 1) && decide (j % 8 < C)) || (decide (j / 8 = r + 1) && decide (j % 8 < 0))) := by
    rw [Bool.eq_iff_iff]
    simp only [Bool.or_eq_true, Bool.and_eq_true, decide_eq_true_eq]
    omega
  rw [e]
theorem spG_F {sp : Nat → Int} {a b C r k : Nat} (hk : k < 8) (h : badB a b r k = false) : spG sp a b C r (k + 1) = spG sp a b C r k := by
  funext j
  unfold spG visB
  by_cases hj : j = r * 8 + k
  · have h1 : j / 8 = r := by omega
    have h2 : j % 8 = k := by omega
    rw [h1, h2, h, Bool.and_false, Bool.and_false]
  · have e : ((decide (j / 8 < r) && decide (j % 8 < C)) || (decide (j / 8 = r) && decide (j % 8 < k + 1))) = ((decide (j / 8 < r) && decide (j % 8 < C)) || (decide (j / 8 = r) && decide (j % 8 < k))) := by
      rw [Bool.eq_iff_iff]
      simp only [Bool.or_eq_true, Bool.and_eq_true, decide_eq_true_eq]
      omega
    rw [e]
theorem spG_T {sp : Nat → Int} {a b C r k : Nat} (hk : k < 8) (h : badB a b r k = true) : spG sp a b C r (k + 1) = fun j => if j = r * 8 + k then spG sp a b C r k (r * 8 + k) + 1 else spG sp a b C r k j := by
  funext j
  unfold spG visB
  by_cases hj : j = r * 8 + k
  · have h1 : j / 8 = r := by omega
    have h2 : j % 8 = k := by omega
    have h3 : (r * 8 + k) / 8 = r := by omega
    have h4 : (r * 8 + k) % 8 = k := by omega
    rw [if_pos hj, h1, h2, h3, h4, h, hj]
    simp
  · rw [if_neg hj]
    have e : ((decide (j / 8 < r) && decide (j % 8 < C)) || (decide (j / 8 = r) && decide (j % 8 < k + 1))) = ((decide (j / 8 < r) && decide (j % 8 < C)) || (decide (j / 8 = r) && decide (j % 8 < k))) := by
      rw [Bool.eq_iff_iff]
      simp only [Bool.or_eq_true, Bool.and_eq_true, decide_eq_true_eq]
      omega
    rw [e]
/-! ### The cells of a picture -/
theorem picL_sp (p : Pic) {j : Nat} (h : j < 64) : ((picL p).map V.p)[6 + j]? = some (.p (.int .i64 (p.sp j))) := by
  unfold picL
  rw [List.getElem?_map, List.append_assoc, List.getElem?_append_right (by simp), List.getElem?_append_left (by simp; omega)]
  simp [h]
theorem picL_n (p : Pic) : ((picL p).map V.p)[70]? = some (.p (.int .i64 (p.n : Int))) := by
  unfold picL
  rw [List.getElem?_map, List.getElem?_append_right (by simp)]
  simp
theorem picL_len (p : Pic) : ((picL p).map V.p).length = 71 := by unfold picL; simp
theorem picL_setn (p : Pic) (n : Nat) : ((picL p).map V.p).set 70 (.p (.int .i64 (n : Int))) = (picL { p with n := n }).map V.p := by
  unfold picL
  rw [List.map_append, List.set_append_right _ _ (by simp)]
  simp
theorem picL_set6 (p : Pic) (v : PV) (i : Nat) (hi : i < 6) : ((picL p).map V.p).set i (.p v) = (([.int .i64 (p.cr : Int), .int .i64 (p.cc : Int), .int .i64 (p.sr : Int), .int .i64 (p.sc : Int), .int .i64 p.lo, .int .i64 p.hi].set i v ++ (List.range 64).map (fun j => .int .i64 (p.sp j)) ++ [.int .i64 (p.n : Int)] : List PV)).map V.p := by
  unfold picL
  rw [← List.map_set, List.append_assoc, List.append_assoc, List.set_append_left _ _ (by simpa using hi)]
theorem picL_setsp (p : Pic) {j : Nat} (h : j < 64) (v : Int) : ((picL p).map V.p).set (6 + j) (.p (.int .i64 v)) = (picL { p with sp := fun i => if i = j then v else p.sp i }).map V.p := by
  apply List.ext_getElem?
  intro i
  rw [List.getElem?_set, picL_len]
  by_cases hi : i < 6
  · rw [if_neg (by omega)]
    unfold picL
    simp only [List.getElem?_map]
    rw [List.append_assoc, List.append_assoc, List.getElem?_append_left (by simpa using hi), List.getElem?_append_left (by simpa using hi)]
  · by_cases hi2 : i < 70
    · have e : i = 6 + (i - 6) := by omega
      rw [e, picL_sp _ (show i - 6 < 64 by omega), picL_sp _ (show i - 6 < 64 by omega)]
      by_cases hij : i - 6 = j
      · rw [if_pos (by omega), if_pos (by omega)]
        show _ = some (V.p (PV.int .i64 (if i - 6 = j then v else p.sp (i - 6))))
        rw [if_pos hij]
      · rw [if_neg (by omega)]
        show _ = some (V.p (PV.int .i64 (if i - 6 = j then v else p.sp (i - 6))))
        rw [if_neg hij]
    · rw [if_neg (by omega)]
      unfold picL
      simp only [List.getElem?_map]
      rw [List.getElem?_append_right (by simp; omega), List.getElem?_append_right (by simp; omega)]
      simp
end Go.Proofs.YtofenmailjdehaaDoor
