/-
  The sack's data, as cells.
-/
import Derived.Test.YtmcejcidbekpkaaAfC
import Derived.Test.YtmcejcidbekpkaaSk0
set_option linter.unusedVariables false
namespace Go.Proofs.Ytmcejcidbekpkaa
open Go.AF
structure Sp where
  lo : Int
  hi : Int
structure Sk where
  w : Sp
  c : Sp
  l : Sp
structure Tk where
  s : Int
  m : Sp
def Sp.cells (s : Sp) : List PV := [.int .i64 s.lo, .int .i64 s.hi]
def Sk.cells (s : Sk) : List PV := [.int .i64 s.w.lo, .int .i64 s.w.hi, .int .i64 s.c.lo, .int .i64 s.c.hi, .int .i64 s.l.lo, .int .i64 s.l.hi]
def Tk.cells (t : Tk) : List PV := [.int .i64 t.s, .int .i64 t.m.lo, .int .i64 t.m.hi]
def Sp.ok (s : Sp) (lo hi : Int) : Bool := decide (lo ≤ s.lo) && decide (s.lo ≤ s.hi) && decide (s.hi ≤ hi)
def Sk.bad (s : Sk) : Bool := !s.w.ok 0 900 || !s.c.ok 0 1000 || !s.l.ok 0 900
def Tk.bad (n : Nat) (t : Tk) : Bool := !(decide (0 ≤ t.s) && decide (t.s ≤ (n : Int) - 1)) || !t.m.ok 1 100000
def sacksV (l : List Sk) : PV := .is (l.flatMap Sk.cells) l.length
def takesV (b : List Tk) : PV := .is (b.flatMap Tk.cells) b.length
def areSacksB (l : List Sk) : Bool := decide ((l.length : Int) ≤ 8) && !l.any Sk.bad
def isBatchB (n : Nat) (b : List Tk) : Bool := decide (1 ≤ (b.length : Int)) && decide ((b.length : Int) ≤ 8) && !b.any (Tk.bad n)
/-- Takes that are not too much. -/
def okB (b : List Tk) : Prop := b.length ≤ 8 ∧ ∀ t ∈ b, 0 ≤ t.m.lo ∧ t.m.lo ≤ t.m.hi ∧ t.m.hi ≤ 100000
def loK (k : Int) (t : Tk) : Int := if t.s = k then t.m.lo else 0
def hiK (k : Int) (t : Tk) : Int := if t.s = k then t.m.hi else 0
theorem loK_B {b : List Tk} (h : okB b) (k : Int) (i : Nat) (hi : i ≤ b.length) : 0 ≤ psum (loK k) b i ∧ psum (loK k) b i ≤ 800000 := by
  have := psum_B (f := loK k) (b := b) (A := 0) (B := 100000) (fun t ht => by have := h.2 t ht; unfold loK; split <;> omega) i hi
  have := h.1
  omega
theorem hiK_B {b : List Tk} (h : okB b) (k : Int) (i : Nat) (hi : i ≤ b.length) : 0 ≤ psum (hiK k) b i ∧ psum (hiK k) b i ≤ 800000 := by
  have := psum_B (f := hiK k) (b := b) (A := 0) (B := 100000) (fun t ht => by have := h.2 t ht; unfold hiK; split <;> omega) i hi
  have := h.1
  omega
/-- A corner, as the document numbers them. -/
def Sk.cw (s : Sk) (j : Nat) : Int := if (j : Int).tmod 2 = 1 then s.w.hi else s.w.lo
def Sk.cc (s : Sk) (j : Nat) : Int := if ((j : Int).tdiv 2).tmod 2 = 1 then s.c.hi else s.c.lo
def Sk.cl (s : Sk) (j : Nat) : Int := if (j : Int).tdiv 4 = 1 then s.l.hi else s.l.lo
def cornerCells (s : Sk) (j : Nat) : List PV := [.int .i64 (s.cw j), .int .i64 (s.cc j), .int .i64 (s.cl j)]
def cornersCells (s : Sk) (n : Nat) : List PV := (List.range n).flatMap (cornerCells s)
theorem cornersCells_succ (s : Sk) (n : Nat) : cornersCells s (n + 1) = cornersCells s n ++ cornerCells s n := by simp [cornersCells, List.range_succ]
theorem cornersCells_length (s : Sk) : ∀ n, (cornersCells s n).length = n * 3
  | 0 => rfl
  | n + 1 => by rw [cornersCells_succ, List.length_append, cornersCells_length s n]; simp [cornerCells]; omega
/-- What a sack can be, as the program yields it. -/
def Sk.sw (s : Sk) (i : Nat) : Int := if (i : Int) = 0 then s.w.lo else s.w.hi
def Sk.sc (s : Sk) (i : Nat) : Int := if (i : Int) = 0 then s.c.lo else s.c.hi
def Sk.sl (s : Sk) (i : Nat) : Int := if (i : Int) = 0 then s.l.lo else s.l.hi
def stateV (s : Sk) (j : Nat) : PV := .agg [.int .i64 (s.sw (j / 4)), .int .i64 (s.sc (j / 2 % 2)), .int .i64 (s.sl (j % 2))]
def statesL (s : Sk) : List (List V) := (List.range 8).map fun j => [.p (stateV s j)]
theorem statesL_get (s : Sk) {i j k : Nat} (hi : i < 2) (hj : j < 2) (hk : k < 2) : (statesL s)[4 * i + 2 * j + k]? = some [.p (.agg [.int .i64 (s.sw i), .int .i64 (s.sc j), .int .i64 (s.sl k)])] := by
  have h : 4 * i + 2 * j + k < 8 := by omega
  have e1 : (4 * i + 2 * j + k) / 4 = i := by omega
  have e2 : (4 * i + 2 * j + k) / 2 % 2 = j := by omega
  have e3 : (4 * i + 2 * j + k) % 2 = k := by omega
  simp [statesL, h, stateV, e1, e2, e3]
def storeCells (s : Sk) (m : Sp) : List PV := s.cells ++ m.cells
/-- What is in a batch: a sack, and how much of it. -/
def zeroSk : Sk := ⟨⟨0, 0⟩, ⟨0, 0⟩, ⟨0, 0⟩⟩
def zeroSt : Sk × Sp := (zeroSk, ⟨0, 0⟩)
def gpS (a : Sk × Sp) : PV := .agg (storeCells a.1 a.2)
def buildStep (l : List Sk) (ms : List (Int × (Sk × Sp))) (t : Tk) : List (Int × (Sk × Sp)) :=
  mset t.s (l[t.s.toNat]?.getD zeroSk, ⟨((mget t.s ms).getD zeroSt).2.lo + t.m.lo, ((mget t.s ms).getD zeroSt).2.hi + t.m.hi⟩) ms
def buildM (l : List Sk) (b : List Tk) (i : Nat) : List (Int × (Sk × Sp)) := (b.take i).foldl (buildStep l) []
theorem buildM_succ (l : List Sk) (b : List Tk) (i : Nat) (h : i < b.length) : buildM l b (i + 1) = buildStep l (buildM l b i) b[i] := by
  unfold buildM
  rw [← List.take_append_getElem h, List.foldl_append]
  rfl
theorem buildM_get (l : List Sk) (b : List Tk) (k : Int) : ∀ i, i ≤ b.length → ((mget k (buildM l b i)).getD zeroSt).2 = ⟨psum (loK k) b i, psum (hiK k) b i⟩
  | 0, _ => by simp [buildM, mget, psum_zero, zeroSt]
  | i + 1, hi => by
    have ih := buildM_get l b k i (by omega)
    rw [buildM_succ l b i hi, buildStep, mget_mset, psum_succ _ b i hi, psum_succ _ b i hi]
    by_cases h : k = b[i].s
    · have h1 := ih
      rw [if_pos h]
      simp only [Option.getD_some, loK, hiK, h, if_true]
      rw [h] at h1
      rw [h1]
    · rw [if_neg h, ih]
      simp [loK, hiK, Ne.symm h]
/-- Takes of sacks that there are. -/
def okT (n : Nat) (b : List Tk) : Prop := ∀ t ∈ b, 0 ≤ t.s ∧ t.s < (n : Int)
/-- What one sack adds, at least and at most. -/
def lowS (F : Sk → Nat → Int) (m : Int × (Sk × Sp)) : Int := mnF (fun j => min (m.2.2.lo * F m.2.1 j) (m.2.2.hi * F m.2.1 j)) 8
def highS (F : Sk → Nat → Int) (m : Int × (Sk × Sp)) : Int := mxF (fun j => max (m.2.2.lo * F m.2.1 j) (m.2.2.hi * F m.2.1 j)) 8
def hiS (m : Int × (Sk × Sp)) : Int := m.2.2.hi
theorem mulS {lo hi f : Int} (hm : 0 ≤ lo ∧ lo ≤ hi) (hf : -2000000000000 ≤ f ∧ f ≤ 2000000000000) : (-(2000000000000 * hi) ≤ lo * f ∧ lo * f ≤ 2000000000000 * hi) ∧ (-(2000000000000 * hi) ≤ hi * f ∧ hi * f ≤ 2000000000000 * hi) := by
  have h1 := mulA (A := 2000000000000) (B := lo) (b := lo) hf ⟨hm.1, Int.le_refl _⟩
  have h2 := mulA (A := 2000000000000) (B := hi) (b := hi) hf ⟨by omega, Int.le_refl _⟩
  omega
theorem lowS_B {F : Sk → Nat → Int} {m : Int × (Sk × Sp)} (hm : 0 ≤ m.2.2.lo ∧ m.2.2.lo ≤ m.2.2.hi) (hF : ∀ j, j < 8 → -2000000000000 ≤ F m.2.1 j ∧ F m.2.1 j ≤ 2000000000000) : -(2000000000000 * hiS m) ≤ lowS F m ∧ lowS F m ≤ 2000000000000 * hiS m :=
  mnF_B 8 (by omega) (fun j hj => by have := mulS hm (hF j hj); unfold hiS; omega)
theorem highS_B {F : Sk → Nat → Int} {m : Int × (Sk × Sp)} (hm : 0 ≤ m.2.2.lo ∧ m.2.2.lo ≤ m.2.2.hi) (hF : ∀ j, j < 8 → -2000000000000 ≤ F m.2.1 j ∧ F m.2.1 j ≤ 2000000000000) : -(2000000000000 * hiS m) ≤ highS F m ∧ highS F m ≤ 2000000000000 * hiS m :=
  mxF_B 8 (by omega) (fun j hj => by have := mulS hm (hF j hj); unfold hiS; omega)
/-- What a walk over a batch has behind it, and before it. -/
structure SumG where
  d : List (Int × (Sk × Sp))
  r : List (Int × (Sk × Sp))
  last : Option (Int × (Sk × Sp))
def SumG.ok (ms : List (Int × (Sk × Sp))) (g : SumG) : Prop := (∀ f : Int × (Sk × Sp) → Int, (g.d.map f).sum + (g.r.map f).sum = (ms.map f).sum) ∧ (∀ m ∈ g.d, m ∈ ms) ∧ (∀ m ∈ g.r, m ∈ ms)
theorem SumG.ok_next {ms d r : List (Int × (Sk × Sp))} {l : Option (Int × (Sk × Sp))} {j : Nat} {m : Int × (Sk × Sp)} (h : SumG.ok ms ⟨d, r, l⟩) (hj : r[j]? = some m) : SumG.ok ms ⟨d ++ [m], r.eraseIdx j, some m⟩ := by
  obtain ⟨h1, h2, h3⟩ := h
  refine ⟨fun f => ?_, fun x hx => ?_, fun x hx => h3 x (List.mem_of_mem_eraseIdx hx)⟩
  · have := h1 f
    have e := sum_erase f r j m hj
    simp only at this ⊢
    rw [sum_snoc]
    omega
  · rcases List.mem_append.1 hx with hx | hx
    · exact h2 x hx
    · simp at hx; subst hx; exact h3 x (List.mem_of_getElem? hj)
/-- A valid sack, a valid batch. -/
def okSk (s : Sk) : Prop := (0 ≤ s.w.lo ∧ s.w.lo ≤ s.w.hi ∧ s.w.hi ≤ 900) ∧ (0 ≤ s.c.lo ∧ s.c.lo ≤ s.c.hi ∧ s.c.hi ≤ 1000) ∧ (0 ≤ s.l.lo ∧ s.l.lo ≤ s.l.hi ∧ s.l.hi ≤ 900)
def okM (ms : List (Int × (Sk × Sp))) : Prop := (∀ m ∈ ms, 0 ≤ m.2.2.lo ∧ m.2.2.lo ≤ m.2.2.hi) ∧ (ms.map hiS).sum ≤ 800000 ∧ ∀ m ∈ ms, okSk m.2.1
theorem okSk.state {s : Sk} (h : okSk s) (j : Nat) : okSt (s.sw (j / 4)) (s.sc (j / 2 % 2)) (s.sl (j % 2)) := by
  unfold okSk at h
  unfold okSt Sk.sw Sk.sc Sk.sl
  refine ⟨?_, ?_, ?_⟩ <;> split <;> omega
/-- A number of each state of a sack. -/
def stF (f : Int → Int → Int → Int) (s : Sk) (j : Nat) : Int := f (s.sw (j / 4)) (s.sc (j / 2 % 2)) (s.sl (j % 2))
/-- The document: how much is taken out of a sack. -/
def wLo (b : List Tk) (i : Nat) : Int := psum (loK (i : Int)) b b.length
def wHi (b : List Tk) (i : Nat) : Int := psum (hiK (i : Int)) b b.length
def okL (l : List Sk) : Prop := l.length ≤ 8 ∧ ∀ s ∈ l, okSk s
def lackLo (l : List Sk) (b : List Tk) (n : Int) (i : Nat) : Int := min (wLo b i * (n - (l[i]?.getD zeroSk).w.hi)) (wHi b i * (n - (l[i]?.getD zeroSk).w.hi))
def lackHi (l : List Sk) (b : List Tk) (n : Int) (i : Nat) : Int := max (wLo b i * (n - (l[i]?.getD zeroSk).w.lo)) (wHi b i * (n - (l[i]?.getD zeroSk).w.lo))
theorem wB {b : List Tk} (h : okB b) (i : Nat) : (0 ≤ wLo b i ∧ wLo b i ≤ 800000) ∧ (0 ≤ wHi b i ∧ wHi b i ≤ 800000) := ⟨loK_B h i _ (Nat.le_refl _), hiK_B h i _ (Nat.le_refl _)⟩
theorem lackB {l : List Sk} {b : List Tk} {n : Int} (hb : okB b) (hn : 0 ≤ n ∧ n ≤ 1000) {i : Nat} (hi : i < l.length) (hl : okSk l[i]) :
    (-800000000 ≤ lackLo l b n i ∧ lackLo l b n i ≤ 800000000) ∧ (-800000000 ≤ lackHi l b n i ∧ lackHi l b n i ≤ 800000000) := by
  have h1 := wB hb i
  have hw := hl.1
  unfold lackLo lackHi
  rw [List.getElem?_eq_getElem hi, Option.getD_some]
  have q1 := mulA (a := n - l[i].w.hi) (A := 1000) (B := 800000) (b := wLo b i) (by omega) h1.1
  have q2 := mulA (a := n - l[i].w.hi) (A := 1000) (B := 800000) (b := wHi b i) (by omega) h1.2
  have q3 := mulA (a := n - l[i].w.lo) (A := 1000) (B := 800000) (b := wLo b i) (by omega) h1.1
  have q4 := mulA (a := n - l[i].w.lo) (A := 1000) (B := 800000) (b := wHi b i) (by omega) h1.2
  omega
theorem okSk.corner {s : Sk} (h : okSk s) (j : Nat) : okSt (s.cw j) (s.cc j) (s.cl j) := by
  unfold okSk at h
  unfold okSt Sk.cw Sk.cc Sk.cl
  refine ⟨?_, ?_, ?_⟩ <;> split <;> omega
theorem corner_win (s : Sk) {k : Nat} (h : k < 8) : ((cornersCells s 8).drop (k * 3)).take 3 = cornerCells s k := by
  have := flat_win (f := cornerCells s) (sz := 3) (fun _ => rfl) (List.range 8) k (by simpa using h)
  simpa [cornersCells] using this
theorem corner_ne (s : Sk) : cornersCells s 8 ≠ [] := by
  intro h
  have := cornersCells_length s 8
  rw [h] at this
  simp at this
/-- The document: beyond a share, at a corner. -/
def beyo (n : Int) (s : Sk) (k : Nat) : Int := 1000 * ofF 1 (s.cw k) (s.cc k) (s.cl k) - n * ofF 4 (s.cw k) (s.cc k) (s.cl k)
theorem beyo_B {n : Int} {s : Sk} (hn : 0 ≤ n ∧ n ≤ 1000) (h : okSk s) (k : Nat) : -1000000000000 ≤ beyo n s k ∧ beyo n s k ≤ 1000000000000 := by
  have := overB2 hn (h.corner k)
  have e : beyo n s k = overF n (s.cw k) (s.cc k) (s.cl k) := by simp [beyo, overF, ofF]
  rw [e]; exact this
def beyLoK (l : List Sk) (b : List Tk) (n : Int) (i k : Nat) : Int := min (wLo b i * beyo n (l[i]?.getD zeroSk) k) (wHi b i * beyo n (l[i]?.getD zeroSk) k)
def beyHiK (l : List Sk) (b : List Tk) (n : Int) (i k : Nat) : Int := max (wLo b i * beyo n (l[i]?.getD zeroSk) k) (wHi b i * beyo n (l[i]?.getD zeroSk) k)
def beyLo (l : List Sk) (b : List Tk) (n : Int) (i : Nat) : Int := mnF (beyLoK l b n i) 8
def beyHi (l : List Sk) (b : List Tk) (n : Int) (i : Nat) : Int := mxF (beyHiK l b n i) 8
theorem beyB {l : List Sk} {b : List Tk} {n : Int} (hb : okB b) (hn : 0 ≤ n ∧ n ≤ 1000) {i : Nat} (hi : i < l.length) (hl : okSk l[i]) :
    (-800000000000000000 ≤ beyLo l b n i ∧ beyLo l b n i ≤ 800000000000000000) ∧ (-800000000000000000 ≤ beyHi l b n i ∧ beyHi l b n i ≤ 800000000000000000) := by
  have h1 := wB hb i
  have key : ∀ k, (-800000000000000000 ≤ beyLoK l b n i k ∧ beyLoK l b n i k ≤ 800000000000000000) ∧ (-800000000000000000 ≤ beyHiK l b n i k ∧ beyHiK l b n i k ≤ 800000000000000000) := fun k => by
    unfold beyLoK beyHiK
    rw [List.getElem?_eq_getElem hi, Option.getD_some]
    have hx := beyo_B hn hl k
    have q1 := mulA (A := 1000000000000) (B := 800000) (b := wLo b i) hx h1.1
    have q2 := mulA (A := 1000000000000) (B := 800000) (b := wHi b i) hx h1.2
    omega
  exact ⟨mnF_B 8 (by omega) (fun k _ => (key k).1), mxF_B 8 (by omega) (fun k _ => (key k).2)⟩
def bigN : Nat := 9223372036854775807
end Go.Proofs.Ytmcejcidbekpkaa
