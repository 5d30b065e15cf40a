/-
  Calls that read own blocks, as content. No condition; generic over any program.
  Regions that draw their order, in which own blocks are laid and written. No condition; generic over any program.
  New rows of zeros; checks for nil; bits that are taken away. No condition; generic over any program.
  Rows put together. No condition; generic over any program.
  Calls that look at own blocks, whose result is partly forgotten. No condition; generic over any program.
  Interface values and their methods. No condition; generic over any program.
  Elements by a total function of their place; calls that leave one of many states behind. No condition; generic over any program.
  Empty slices inside of values, by what is in them. No condition; generic over any program.
  Cells of own rows at places not known; an own row that is frozen where another own row refers to it. No condition; generic over any program.
  An own slice that grew in a cell of another own block becomes immutable there. No condition; generic over any program.
  A slice that is built of whole elements. No condition; generic over any program.
  An element of an own slice at an integer place. No condition; generic over any program.
  A call whose result is a tuple with a new own slice; own slices that may be empty are copied and written. No condition; generic over any program.
  A cell of a package variable that the program lays. No condition; generic over any program.
  What a row says of a listed package variable, an array of integers, as the walks want it. No condition; generic over any program.
  A call that works on some of the own blocks; all others stay as they are. No condition; generic over any program.
  Functions that yield in a range over another function. No condition; generic over any program.
  Storing one cell at a place of an own block. No condition; generic over any program.
  New slices that become content at once; a map that is frozen where a cell refers to it. No condition; generic over any program.
  Ranges over functions that look at own blocks of their caller. No condition; generic over any program.
  Functions that yield and look at own blocks of their caller: what they lay themselves becomes content; places below k are kept over a yield. No condition; generic over any program.
  Copying into an own row; slices that are nil, or not. No condition; generic over any program.
  A slice that grows, read as content by a call: nil, or a list. No condition; generic over any program.
-/
import Derived.Test.YtplofbjppcbchaaDoorFaVC
import Derived.MakeChecks
import Derived.LaidMore
import Derived.OpenShut
import Derived.FnData
section
set_option linter.unusedVariables false
set_option linter.unusedSimpArgs false
set_option linter.unusedSectionVars false
namespace Go.AF

section
variable {P : Program} {R : Option Nat} {N κ : Nat} {Q Q' : Post} {T T' T2 T3 : Tm} {H H' H2 H3 : List Blk} {o : Oper} {ops : Array Oper} {rest : List Oper}

/-! ### Data without references -/
mutual
def scP : PV → Bool
  | .bool _ | .int _ _ | .str _ | .nilPtr | .nilSlice | .nilMap | .nilFunc | .nilIface => true
  | .agg cs => scL cs
  | .tuple cs => scL cs
  | .iface _ v => scP v
  | .ip _ _ | .is _ _ | .im _ _ | .func _ _ _ => false
def scL : List PV → Bool
  | [] => true
  | x :: xs => scP x && scL xs
end
mutual
theorem Rel.sc {w w' : World} {I I' : Nat → Prop} : ∀ (x : PV) (u : Value), scP x = true → Rel w I x u → Rel w' I' x u
  | .bool _, _, _, h => h
  | .int _ _, _, _, h => h
  | .str _, _, _, h => h
  | .nilPtr, _, _, h => h
  | .nilSlice, _, _, h => h
  | .nilMap, _, _, h => h
  | .nilFunc, _, _, h => h
  | .nilIface, _, _, h => h
  | .agg cs, u, hs, h => by
    obtain ⟨us, hu, h1⟩ := h
    exact ⟨us, hu, RelL.sc cs _ (by simpa [scP] using hs) h1⟩
  | .tuple cs, u, hs, h => by
    obtain ⟨us, hu, h1⟩ := h
    exact ⟨us, hu, RelL.sc cs _ (by simpa [scP] using hs) h1⟩
  | .iface t v, u, hs, h => by
    obtain ⟨z, hu, h1⟩ := h
    exact ⟨z, hu, Rel.sc v z (by simpa [scP] using hs) h1⟩
  | .ip _ _, _, hs, _ => by simp [scP] at hs
  | .is _ _, _, hs, _ => by simp [scP] at hs
  | .im _ _, _, hs, _ => by simp [scP] at hs
  | .func _ _ _, _, hs, _ => by simp [scP] at hs
theorem RelL.sc {w w' : World} {I I' : Nat → Prop} : ∀ (xs : List PV) (us : List Value), scL xs = true → RelL w I xs us → RelL w' I' xs us
  | [], us, _, h => h
  | x :: xs, us, hs, h => by
    simp only [scL, Bool.and_eq_true] at hs
    obtain ⟨u, us', hu, h1, h2⟩ := h
    exact ⟨u, us', hu, Rel.sc x u hs.1 h1, RelL.sc xs us' hs.2 h2⟩
end
end
section
variable {P : Program} {R : Option Nat} {N κ : Nat} {Q : Post} {T : Tm} {H : List Blk}
end
end Go.AF
end

section
set_option linter.unusedVariables false
set_option linter.unusedSimpArgs false
set_option linter.unusedSectionVars false
set_option linter.unnecessarySimpa false
namespace Go.AF

/-- Places that are named: those of old, and some new ones. -/
def sg (n0 : Nat) (ms : List Nat) (i : Nat) : Option Nat := bif Nat.blt i n0 || ms.elem i then some i else none
/-- Place k takes what was laid last. -/
def sw (k n : Nat) (i : Nat) : Option Nat := bif Nat.beq i n then some k else bif Nat.beq i k then none else some i
/-- Own blocks, some of which are not known. -/
def mask (g : Nat → Blk) (S : List Nat) : Nat → List Blk → List Blk
  | _, [] => []
  | i, x :: H => (bif S.elem i then g i else x) :: mask g S (i + 1) H
def difL (S us : List Nat) : List Nat := S.filter fun i => !us.elem i
def intL (us L : List Nat) : List Nat := us.filter fun i => L.elem i
def deads : Nat → List Blk
  | 0 => []
  | r + 1 => .dead :: deads r
def app : List (Nat × Blk) → List Blk → List Blk
  | [], H => H
  | (k, b) :: w, H => app w (H.set k b)

theorem mask_get (g : Nat → Blk) (S : List Nat) : ∀ (H : List Blk) (i k : Nat), (mask g S i H)[k]? = if S.elem (i + k) then (H[k]?).map (fun _ => g (i + k)) else H[k]?
  | [], i, k => by simp [mask]
  | x :: H, i, 0 => by
    simp only [mask, List.getElem?_cons_zero, Nat.add_zero, Option.map_some]
    cases S.elem i <;> rfl
  | x :: H, i, k + 1 => by
    simp only [mask, List.getElem?_cons_succ]
    rw [mask_get g S H (i + 1) k, show i + 1 + k = i + (k + 1) by omega]
theorem mask_len (g : Nat → Blk) (S : List Nat) : ∀ (H : List Blk) (i : Nat), (mask g S i H).length = H.length
  | [], i => rfl
  | x :: H, i => by simp [mask, mask_len g S H (i + 1)]
theorem app_len : ∀ (w : List (Nat × Blk)) (H : List Blk), (app w H).length = H.length
  | [], H => rfl
  | (k, b) :: w, H => by simp [app, app_len w]
theorem app_ne {k : Nat} : ∀ {w : List (Nat × Blk)} {H : List Blk}, (∀ b, (k, b) ∉ w) → (app w H)[k]? = H[k]?
  | [], H, h => rfl
  | (j, b) :: w, H, h => by
    have : j ≠ k := fun e => h b (by rw [e]; simp)
    simp only [app]
    rw [app_ne (fun c hc => h c (by simp [hc])), List.getElem?_set, if_neg this]
theorem app_congr {k : Nat} : ∀ {w : List (Nat × Blk)} {H H' : List Blk}, H.length = H'.length → H[k]? = H'[k]? → (app w H)[k]? = (app w H')[k]?
  | [], H, H', hl, h => h
  | (j, b) :: w, H, H', hl, h => by
    simp only [app]
    exact app_congr (by simp [hl]) (by simp only [List.getElem?_set, hl, h])
theorem app_set {j : Nat} {b : Blk} : ∀ {w : List (Nat × Blk)} {H : List Blk}, (∀ c, (j, c) ∉ w) → app w (H.set j b) = (app w H).set j b
  | [], H, h => rfl
  | (k, c) :: w, H, h => by
    have hne : j ≠ k := fun e => h c (by rw [e]; simp)
    simp only [app]
    rw [← app_set (fun d hd => h d (by simp [hd])), List.set_comm _ _ hne]
theorem app_comm : ∀ {w1 w2 : List (Nat × Blk)} {H : List Blk}, (∀ k b1 b2, (k, b1) ∈ w1 → (k, b2) ∉ w2) → app w1 (app w2 H) = app w2 (app w1 H)
  | [], w2, H, h => rfl
  | (j, b) :: w1, w2, H, h => by
    simp only [app]
    rw [← app_set (fun c hc => h j b c (by simp) hc)]
    exact app_comm fun k b1 b2 h1 h2 => h k b1 b2 (by simp [h1]) h2
theorem app_app : ∀ (w1 w2 : List (Nat × Blk)) (H : List Blk), app (w1 ++ w2) H = app w2 (app w1 H)
  | [], w2, H => rfl
  | (j, b) :: w1, w2, H => by simp only [List.cons_append, app]; exact app_app w1 w2 _
theorem mem_app : ∀ {w : List (Nat × Blk)} {H : List Blk} {x : Blk}, x ∈ app w H → x ∈ H ∨ ∃ k, (k, x) ∈ w
  | [], H, x, h => .inl h
  | (j, b) :: w, H, x, h => by
    rcases mem_app (w := w) h with h1 | ⟨k, h1⟩
    · rcases List.mem_or_eq_of_mem_set h1 with h2 | rfl
      · exact .inl h2
      · exact .inr ⟨j, by simp⟩
    · exact .inr ⟨k, by simp [h1]⟩

/-- The own blocks, once the operations of f have been carried out. -/
def HH (wrt : Nat → List (Nat × Blk)) (f : Nat → Bool) (H0 : List Blk) : Nat → List Blk
  | 0 => H0
  | j + 1 => bif f j then app (wrt j) (HH wrt f H0 j) else HH wrt f H0 j
section
variable {wrt : Nat → List (Nat × Blk)} {f g : Nat → Bool} {H0 : List Blk}
theorem HH_len : ∀ m, (HH wrt f H0 m).length = H0.length
  | 0 => rfl
  | m + 1 => by
    simp only [HH]
    cases f m
    · exact HH_len m
    · exact (app_len _ _).trans (HH_len m)
theorem HH_get {k i m : Nat} (h1 : ∀ j, j < m → j < i → (∃ b, (k, b) ∈ wrt j) → f j = true) (h2 : ∀ j, j < m → i ≤ j → (∃ b, (k, b) ∈ wrt j) → f j = false) :
    ∀ n, n ≤ m → (HH wrt f H0 n)[k]? = (HH wrt (fun _ => true) H0 (min n i))[k]?
  | 0, _ => by simp [HH]
  | n + 1, hn => by
    have ih := HH_get (i := i) h1 h2 n (by omega)
    by_cases hw : ∃ b, (k, b) ∈ wrt n
    · by_cases hi : n < i
      · rw [show min (n + 1) i = n + 1 by omega]
        rw [show min n i = n by omega] at ih
        simp only [HH, h1 n (by omega) hi hw, cond_true]
        exact app_congr (by rw [HH_len, HH_len]) ih
      · rw [show min (n + 1) i = min n i by omega]
        simp only [HH, h2 n (by omega) (by omega) hw, cond_false]
        exact ih
    · have hne : ∀ b, (k, b) ∉ wrt n := fun b e => hw ⟨b, e⟩
      have e1 : (HH wrt f H0 (n + 1))[k]? = (HH wrt f H0 n)[k]? := by
        simp only [HH]
        cases f n
        · rfl
        · exact app_ne hne
      rw [e1, ih]
      by_cases hi : n < i
      · rw [show min (n + 1) i = n + 1 by omega, show min n i = n by omega]
        simp only [HH, cond_true]
        exact (app_ne hne).symm
      · rw [show min (n + 1) i = min n i by omega]
theorem HH_same {m : Nat} (h : ∀ j, j < m → f j = g j) : ∀ n, n ≤ m → HH wrt f H0 n = HH wrt g H0 n
  | 0, _ => rfl
  | n + 1, hn => by
    simp only [HH, h n (by omega), HH_same h n (by omega)]
theorem HH_upd {i m : Nat} (hi : i < m) (hf : f i = false) (hg : ∀ j, g j = (decide (j = i) || f j)) (hc : ∀ j, i < j → j < m → f j = true → ∀ k b1 b2, (k, b1) ∈ wrt j → (k, b2) ∉ wrt i) :
    ∀ n, n ≤ m → HH wrt g H0 n = if i < n then app (wrt i) (HH wrt f H0 n) else HH wrt f H0 n
  | 0, _ => by simp [HH]
  | n + 1, hn => by
    have ih := HH_upd hi hf hg hc n (by omega)
    by_cases h : n = i
    · subst h
      rw [if_neg (by omega)] at ih
      rw [if_pos (by omega)]
      simp only [HH, hg n, hf, decide_true, Bool.true_or, cond_true, cond_false, ih]
    · by_cases hlt : i < n
      · rw [if_pos hlt] at ih
        rw [if_pos (by omega)]
        have e : g n = f n := by rw [hg]; simp [h]
        simp only [HH, e, ih]
        cases hfn : f n with
        | false => rfl
        | true =>
          simp only [cond_true]
          exact app_comm (hc n hlt (by omega) hfn)
      · rw [if_neg hlt] at ih
        rw [if_neg (by omega)]
        have e : g n = f n := by rw [hg]; simp [h]
        simp only [HH, e, ih]
end

/-- What one operation does. -/
def StG (P : Program) (N : Nat) (ops : Array Oper) (S : List Nat) (n0 : Nat) (o : Oper) (us : List Nat) (wr : Bool) (L L' : List Nat) (T : Tm) (H : List Blk) (v : V) (w : List (Nat × Blk)) : Prop :=
  (wr = false ∧ w = [] ∧ L' = L ∧ renV (sg n0 (intL us L)) v = v ∧ ∀ g, YJ P N ops o T (mask g (difL S us) 0 H) v) ∨
  (wr = true ∧ o.guard = none ∧ L' = L ∧ renV (sg n0 (intL us L)) v = v ∧ ∃ k blk, w = [(k, blk)] ∧ k ∈ us ∧ k ∈ S ∧ renB (sg n0 (intL us L)) blk = blk ∧ ∀ g, OpJ P N o (restr ops o T) (mask g (difL S us) 0 H) v (mask g (difL S us) 0 (H.set k blk))) ∨
  (wr = true ∧ o.guard = none ∧ ∃ k blk v0 w1, w = w1 ++ [(k, blk)] ∧ (∀ p ∈ w1, p.1 ∈ us ∧ p.1 ∈ S ∧ renB (sg n0 []) p.2 = p.2) ∧ L' = k :: L ∧ k ∈ us ∧ k ∈ S ∧ n0 ≤ k ∧ k ∉ L ∧ renB (sg n0 []) blk = blk ∧ v = renV (sw k H.length) v0 ∧ renV (sg n0 [k]) v = v ∧ k < H.length ∧
    ∀ g, OpJ P N o (restr ops o T) (mask g (difL S us) 0 H) v0 (mask g (difL S us) 0 (app w1 H) ++ [blk]))

/-- One pass in the order of the text. Which own blocks of S an operation uses, and whether it writes, is told ahead. -/
def AQG (P : Program) (N : Nat) (ops : Array Oper) (S : List Nat) (n0 : Nat) (K : Tm → List Blk → Prop) : List Nat → List (List Nat × Bool) → List Oper → Tm → List Blk → Prop
  | _, _, [], T, H => K T H
  | L, D, o :: rest, T, H => ∃ v w L', dstOk N o.dst = true ∧ StG P N ops S n0 o (D.headD ([], false)).1 (D.headD ([], false)).2 L L' T H v w ∧ AQG P N ops S n0 K L' (D.drop 1) rest (setT T o.dst v) (app w H)

section
variable {P : Program} {R : Option Nat} {N κ : Nat} {Q : Post} {T : Tm} {H : List Blk} {o : Oper} {ops : Array Oper} {K : Tm → List Blk → Prop} {rest : List Oper} {S L us : List Nat} {n0 : Nat} {D : List (List Nat × Bool)}
theorem AQG.nil (h : K T H) : AQG P N ops S n0 K L D [] T H := h
theorem AQG.cons (d : Nat) {v : V} (hd : o.dst = some d) (hdN : dstOk N (some d) = true) (hg : o.guard = none) (hop : ∀ g, OpJ P N o (restr ops o T) (mask g (difL S us) 0 H) v (mask g (difL S us) 0 H)) (hv : renV (sg n0 (intL us L)) v = v)
    (next : AQG P N ops S n0 K L D rest ((d, v) :: T) H) : AQG P N ops S n0 K L ((us, false) :: D) (o :: rest) T H :=
  ⟨v, [], L, by rw [hd]; exact hdN, .inl ⟨rfl, rfl, rfl, hv, fun g => .inl ⟨hg, hop g⟩⟩, by rw [hd]; exact next⟩
theorem AQG.put (k : Nat) {blk : Blk} {v : V} (hd : o.dst = none) (hg : o.guard = none) (hk : us.elem k = true) (hS : S.elem k = true) (hop : ∀ g, OpJ P N o (restr ops o T) (mask g (difL S us) 0 H) v (mask g (difL S us) 0 (H.set k blk))) (hv : renV (sg n0 (intL us L)) v = v) (hb : renB (sg n0 (intL us L)) blk = blk)
    (next : AQG P N ops S n0 K L D rest T (H.set k blk)) : AQG P N ops S n0 K L ((us, true) :: D) (o :: rest) T H :=
  ⟨v, [(k, blk)], L, by rw [hd]; rfl, .inr (.inl ⟨rfl, hg, rfl, hv, k, blk, rfl, by simpa using hk, by simpa using hS, hb, hop⟩), by rw [hd]; exact next⟩
theorem AQG.lay (d k : Nat) {blk : Blk} {v v0 : V} (hd : o.dst = some d) (hdN : dstOk N (some d) = true) (hg : o.guard = none) (hS : S.elem k = true) (hk : Nat.ble n0 k = true) (hL : L.elem k = false) (hkl : Nat.blt k H.length = true) (hku : us.elem k = true) (hop : ∀ g, OpJ P N o (restr ops o T) (mask g (difL S us) 0 H) v0 (mask g (difL S us) 0 H ++ [blk]))
    (hv0 : renV (sw k H.length) v0 = v) (hv : renV (sg n0 [k]) v = v) (hb : renB (sg n0 []) blk = blk)
    (next : AQG P N ops S n0 K (k :: L) D rest ((d, v) :: T) (H.set k blk)) : AQG P N ops S n0 K L ((us, true) :: D) (o :: rest) T H :=
  ⟨v, [(k, blk)], k :: L, by rw [hd]; exact hdN, .inr (.inr ⟨rfl, hg, k, blk, v0, [], rfl, (fun _ h => by cases h), rfl, by simpa using hku, by simpa using hS, by simpa using hk, (fun h => by rw [show L.elem k = true by simpa using h] at hL; cases hL), hb, hv0.symm, hv, by simpa [Nat.blt, Nat.lt_iff_add_one_le] using hkl, hop⟩), by rw [hd]; exact next⟩

section
variable {m : Nat} {l : List Oper} {vs : Nat → V}
theorem AQG.vals {ops : Array Oper} : ∀ {l' : List Oper} {L : List Nat} {D : List (List Nat × Bool)} {T : Tm} {H : List Blk}, AQG P N ops S n0 K L D l' T H → ∃ (vs : Nat → V) (Tx : Nat → Tm) (Hx : Nat → List Blk) (wrt : Nat → List (Nat × Blk)) (Ls : Nat → List Nat), Tx 0 = T ∧ Hx 0 = H ∧ Ls 0 = L ∧
    (∀ i o, l'[i]? = some o → dstOk N o.dst = true ∧ StG P N ops S n0 o (D.getD i ([], false)).1 (D.getD i ([], false)).2 (Ls i) (Ls (i + 1)) (Tx i) (Hx i) (vs i) (wrt i) ∧ Tx (i + 1) = setT (Tx i) o.dst (vs i) ∧ Hx (i + 1) = app (wrt i) (Hx i)) ∧ K (Tx l'.length) (Hx l'.length)
  | [], L, D, T, H, h => ⟨fun _ => .top, fun _ => T, fun _ => H, fun _ => [], fun _ => L, rfl, rfl, rfl, fun i o ho => by simp at ho, by unfold AQG at h; exact h⟩
  | o :: l', L, D, T, H, h => by
    obtain ⟨v, w, L', hd, hst, hn⟩ := h
    obtain ⟨vs, Tx, Hx, wrt, Ls, h0, h0', h0'', h1, h2⟩ := AQG.vals hn
    refine ⟨fun i => match i with | 0 => v | i + 1 => vs i, fun i => match i with | 0 => T | i + 1 => Tx i, fun i => match i with | 0 => H | i + 1 => Hx i, fun i => match i with | 0 => w | i + 1 => wrt i, fun i => match i with | 0 => L | i + 1 => Ls i, rfl, rfl, rfl, fun i x hx => ?_, h2⟩
    cases i with
    | zero =>
      simp at hx; subst hx
      refine ⟨hd, ?_, h0, h0'⟩
      have e : D.getD 0 ([], false) = D.headD ([], false) := by cases D <;> rfl
      rw [e]
      show StG P N ops S n0 o _ _ L (Ls 0) T H v w
      rw [h0'']; exact hst
    | succ i =>
      simp at hx
      obtain ⟨k1, k2, k3⟩ := h1 i x hx
      refine ⟨k1, ?_, k3⟩
      have e : D.getD (i + 1) ([], false) = (D.drop 1).getD i ([], false) := by
        simp [List.getD_eq_getElem?_getD, Nat.add_comm]
      rw [e]; exact k2

/-- Of two operations that use the same own block, one of which writes it, the later one is forced behind the earlier one. -/
def drawD (m : Nat) (l : List Oper) (D : List (List Nat × Bool)) : Bool :=
  let t := ancAux [] l
  (List.range m).all fun j => (List.range j).all fun i => !(((D.getD i ([], false)).2 || (D.getD j ([], false)).2) && (D.getD i ([], false)).1.any fun k => (D.getD j ([], false)).1.elem k) || (t.getD j 0).testBit i

theorem drawD_spec {D : List (List Nat × Bool)} (h : drawD m l D = true) (f : Nat → Bool) (hc : ∀ i o, l[i]? = some o → f i = true → ∀ e ∈ o.after, Region.binds .any e = true → f e.on = true) {i j k : Nat} (hij : i < j) (hj : j < m)
    (hw : (D.getD i ([], false)).2 = true ∨ (D.getD j ([], false)).2 = true) (hi : k ∈ (D.getD i ([], false)).1) (hk : k ∈ (D.getD j ([], false)).1) (hf : f j = true) : f i = true := by
  simp only [drawD] at h
  have := List.all_eq_true.1 (List.all_eq_true.1 h j (List.mem_range.2 hj)) i (List.mem_range.2 hij)
  have h1 : ((D.getD i ([], false)).2 || (D.getD j ([], false)).2) = true := by simpa using hw
  have h2 : ((D.getD i ([], false)).1.any fun k => (D.getD j ([], false)).1.elem k) = true := List.any_eq_true.2 ⟨k, hi, by simpa using hk⟩
  rw [h1, h2] at this
  exact ancAux_spec f l [] [] rfl (by simpa using hc) (fun i x h => by simp at h) j i (by simpa using this) hf

theorem mask_set {g : Nat → Blk} {S : List Nat} {H : List Blk} {k : Nat} {b : Blk} (h : k ∉ S) : mask g S 0 (H.set k b) = (mask g S 0 H).set k b := by
  apply List.ext_getElem?
  intro j
  rw [List.getElem?_set (l := mask g S 0 H), mask_get, mask_get, List.getElem?_set, mask_len, Nat.zero_add]
  by_cases hj : k = j
  · subst hj
    simp [h]
  · simp [hj]
theorem mem_difL {S us : List Nat} {k : Nat} : k ∈ difL S us ↔ k ∈ S ∧ k ∉ us := by simp [difL]
theorem sg_id {n0 : Nat} {ms : List Nat} {i j : Nat} (h : sg n0 ms i = some j) : j = i ∧ (i < n0 ∨ i ∈ ms) := by
  unfold sg at h
  cases hb : (Nat.blt i n0 || ms.elem i) with
  | false => rw [hb] at h; cases h
  | true =>
    rw [hb] at h
    cases h
    refine ⟨rfl, ?_⟩
    simp only [Bool.or_eq_true] at hb
    rcases hb with hb | hb
    · exact .inl (by simpa [Nat.blt, Nat.lt_iff_add_one_le] using hb)
    · exact .inr (by simpa using hb)

/-- The state between two operations of a region that draws. -/
def SIG (κ : Nat) (P : Program) (N : Nat) (H : List Blk) (n0 : Nat) (wrt : Nat → List (Nat × Blk)) (m : Nat) (l : List Oper) (T : Tm) (vs : Nat → V) (B : Base) (w0 : World) (I0 : Nat → Prop) (ρ0 : List Nat) (f : Nat → Bool) (a : Act) (w : World) : Prop :=
  ∃ I ρ, ExtW w0 I0 ρ0 w I ρ ∧ Inv P w I ρ (HH wrt f H m) ∧ a.tmps.size = N ∧ (∀ s v, tl l T vs f s = some v → RelV P w I ρ v (a.tmps.getD s undef)) ∧
    (∀ s v, lk T s = some v → (∀ j o, l[j]? = some o → f j = true → o.dst ≠ some s) → RelV P w I (ρ.take n0) v (a.tmps.getD s undef)) ∧ Marks κ B w I ρ a.defers

theorem draw_mainG (hk : DrawOk m l) (hm : m ≤ l.length) {D : List (List Nat × Bool)} (hD : drawD m l D = true) {B : Base} {w0 : World} {I0 : Nat → Prop} {ρ0 : List Nat} {QX : Exit → Act → World → Prop} {Tx : Nat → Tm} {Hx : Nat → List Blk} {wrt : Nat → List (Nat × Blk)} {Ls : Nat → List Nat}
    (h0 : Tx 0 = T) (h0' : Hx 0 = H) (h0'' : Ls 0 = []) (hn0 : n0 ≤ H.length) (hH : ∀ x ∈ H, renB (sg n0 []) x = x) (hB : B.pre.length ≤ n0)
    (h1 : ∀ i o, i < m → l[i]? = some o → dstOk N o.dst = true ∧ StG P N l.toArray S n0 o (D.getD i ([], false)).1 (D.getD i ([], false)).2 (Ls i) (Ls (i + 1)) (Tx i) (Hx i) (vs i) (wrt i) ∧ Tx (i + 1) = setT (Tx i) o.dst (vs i) ∧ Hx (i + 1) = app (wrt i) (Hx i))
    (hK : ∀ a w I ρ, ExtW w0 I0 ρ0 w I ρ → Inv P w I ρ (Hx m) → TRel P w I ρ N (Tx m) a.tmps → Marks κ B w I ρ a.defers → wpListIn (Fr R) 0 P l.toArray QX (l.drop m) a w) :
    ∀ (fuel : Nat) (listed : Array Bool) (a : Act) (w : World), listed.toList.count false = fuel → listed.size = l.length → (∀ i o, l[i]? = some o → fl listed i = true → ∀ e ∈ o.after, Region.binds .any e = true → fl listed e.on = true) → (∀ i, m ≤ i → fl listed i = false) →
    SIG κ P N H n0 wrt m l T vs B w0 I0 ρ0 (fl listed) a w → wpAnyIn (Fr R) 0 P .any l.toArray QX fuel listed a w := by
  intro fuel
  have hlk := lk_Tx (vs := vs) hk hm h0 (fun i o hi ho => (h1 i o hi ho).2.2.1)
  have hget : ∀ i, i < m → ∃ o, l[i]? = some o := fun i hi => ⟨l[i]'(by omega), List.getElem?_eq_getElem _⟩
  have hHx : ∀ i, i ≤ m → Hx i = HH wrt (fun _ => true) H i := by
    intro i
    induction i with
    | zero => intro _; exact h0'
    | succ i ih =>
      intro hi
      obtain ⟨o, ho⟩ := hget i (by omega)
      rw [(h1 i o (by omega) ho).2.2.2, ih (by omega)]
      rfl
  have hwrt : ∀ i k b, i < m → (k, b) ∈ wrt i → k ∈ (D.getD i ([], false)).1 ∧ (D.getD i ([], false)).2 = true ∧ k ∈ S ∧ ∃ ms : List Nat, renB (sg n0 ms) b = b ∧ ∀ x ∈ ms, x ∈ (D.getD i ([], false)).1 ∧ x ∈ Ls i := by
    intro i k b hi hw
    obtain ⟨o, ho⟩ := hget i hi
    obtain ⟨_, hst, _⟩ := h1 i o hi ho
    rcases hst with ⟨_, h2, _⟩ | ⟨h2, _, _, _, k', blk, h3, h4, h5, h6, _⟩ | ⟨h2, _, k', blk, v0, w1, h3, hw1, _, h4, h5, _, _, h6, _⟩
    · rw [h2] at hw; cases hw
    · rw [h3] at hw; simp at hw; obtain ⟨rfl, rfl⟩ := hw; exact ⟨h4, h2, h5, _, h6, fun x hx => by simpa [intL] using hx⟩
    · rw [h3] at hw
      rcases List.mem_append.1 hw with h7 | h7
      · obtain ⟨h8, h9, h10⟩ := hw1 _ h7; exact ⟨h8, h2, h9, [], h10, fun x hx => by cases hx⟩
      · simp at h7; obtain ⟨rfl, rfl⟩ := h7; exact ⟨h4, h2, h5, [], h6, fun x hx => by cases hx⟩
  have hLstep : ∀ i, i < m → Ls (i + 1) = Ls i ∨ ∃ k, Ls (i + 1) = k :: Ls i ∧ k ∉ Ls i ∧ k ∈ (D.getD i ([], false)).1 ∧ (D.getD i ([], false)).2 = true := by
    intro i hi
    obtain ⟨o, ho⟩ := hget i hi
    obtain ⟨_, hst, _⟩ := h1 i o hi ho
    rcases hst with ⟨_, _, h2, _⟩ | ⟨_, _, h2, _⟩ | ⟨h2, _, k, blk, v0, _, _, _, h3, h4, _, _, h5, _⟩
    · exact .inl h2
    · exact .inl h2
    · exact .inr ⟨k, h3, h5, h4, h2⟩
  have hLmono : ∀ i j k, i ≤ j → j ≤ m → k ∈ Ls i → k ∈ Ls j := by
    intro i j k hij
    induction j with
    | zero => intro _ hki; obtain rfl : i = 0 := by omega
              exact hki
    | succ j ih =>
      intro hj hki
      by_cases e : i = j + 1
      · subst e; exact hki
      · have := ih (by omega) (by omega) hki
        rcases hLstep j (by omega) with h | ⟨k', h, _⟩
        · rw [h]; exact this
        · rw [h]; exact List.mem_cons_of_mem _ this
  have hLmem : ∀ j k, j ≤ m → k ∈ Ls j → ∃ i, i < j ∧ k ∈ (D.getD i ([], false)).1 ∧ (D.getD i ([], false)).2 = true ∧ k ∉ Ls i ∧ k ∈ Ls (i + 1) := by
    intro j
    induction j with
    | zero => intro k _ h; rw [h0''] at h; cases h
    | succ j ih =>
      intro k hj h
      rcases hLstep j (by omega) with h2 | ⟨k', h2, h3, h4, h5⟩
      · rw [h2] at h
        obtain ⟨i, hi, h6⟩ := ih k (by omega) h
        exact ⟨i, by omega, h6⟩
      · rw [h2] at h
        rcases List.mem_cons.1 h with rfl | h
        · exact ⟨j, by omega, h4, h5, h3, by rw [h2]; simp⟩
        · obtain ⟨i, hi, h6⟩ := ih k (by omega) h
          exact ⟨i, by omega, h6⟩
  have hlen : ∀ f n, (HH wrt f H n).length = H.length := fun f n => HH_len n
  have hsta : ∀ f n, n ≤ m → ∀ x ∈ HH wrt f H n, ∃ ms : List Nat, renB (sg n0 ms) x = x ∧ ∀ y ∈ ms, ∃ j, j < m ∧ f j = true ∧ y ∈ (D.getD j ([], false)).1 ∧ y ∈ Ls j := by
    intro f n
    induction n with
    | zero => intro _ x hx; exact ⟨[], hH x hx, fun y hy => by cases hy⟩
    | succ n ih =>
      intro hn x hx
      simp only [HH] at hx
      cases hf : f n with
      | false => rw [hf] at hx; exact ih (by omega) x hx
      | true =>
        rw [hf] at hx
        simp only [cond_true] at hx
        rcases mem_app hx with h | ⟨k, h⟩
        · exact ih (by omega) x h
        · obtain ⟨_, _, _, ms, h2, h3⟩ := hwrt n k x (by omega) h
          exact ⟨ms, h2, fun y hy => ⟨n, by omega, hf, h3 y hy⟩⟩
  have done : ∀ (fuel : Nat) (listed : Array Bool) (a : Act) (w : World), listed.toList.count false = fuel → listed.size = l.length → (∀ i, m ≤ i → fl listed i = false) → (∀ i, i < m → fl listed i = true) → SIG κ P N H n0 wrt m l T vs B w0 I0 ρ0 (fl listed) a w → wpAnyIn (Fr R) 0 P .any l.toArray QX fuel listed a w := by
    intro fuel listed a w hcnt hsz htl hall hsi
    obtain ⟨I, ρ, he, hi, hs, hrel, _, hmk⟩ := hsi
    rw [HH_same (g := fun _ => true) (fun j hj => hall j hj) m (Nat.le_refl _), ← hHx m (Nat.le_refl _)] at hi
    have hfl : ∀ i, fl listed i = decide (i < m) := fun i => by
      by_cases h : i < m
      · rw [hall i h]; simp [h]
      · rw [htl i (by omega)]; simp [h]
    have hcount : fuel + m = l.length := by
      have gen : ∀ (bs : List Bool) (k : Nat), k ≤ bs.length → (∀ i b, bs[i]? = some b → b = decide (i < k)) → bs.count false + k = bs.length := by
        intro bs
        induction bs with
        | nil => intro k hk _; simp at hk; simp [hk]
        | cons b bs ih =>
          intro k hk hb
          have hb0 := hb 0 b rfl
          cases k with
          | zero =>
            have := ih 0 (by omega) (fun i c hc => by have := hb (i + 1) c (by simpa using hc); simpa using this)
            simp at hb0
            subst hb0
            simp at this ⊢
            omega
          | succ k =>
            have := ih k (by simpa using hk) (fun i c hc => by have := hb (i + 1) c (by simpa using hc); simpa using this)
            simp at hb0
            subst hb0
            simp at this ⊢
            omega
      have := gen listed.toList m (by simpa [hsz] using hm) (fun i b hb => by
        have := hfl i
        unfold fl at this
        simp at hb
        rw [← this]
        simp [hb])
      rw [hcnt] at this
      simpa [hsz] using this
    refine draw_tail hk fuel m listed a w hcount (Nat.le_refl _) hsz (fun i _ => hfl i) (hK a w I ρ he hi ⟨hs, fun s v hv => hrel s v ?_⟩ hmk)
    rw [← hv, hlk m (Nat.le_refl _)]
    exact tl_congr hk fun j o hj hd => hfl j
  induction fuel with
  | zero =>
    intro listed a w hcnt hsz hcl htl hsi
    refine done 0 listed a w hcnt hsz htl (fun i hi => ?_) hsi
    have hlt : i < listed.size := by omega
    have h2 := List.count_eq_zero.1 hcnt
    unfold fl
    cases h3 : listed[i] with
    | true => simp [hlt, h3]
    | false => exact absurd (by rw [← h3]; exact Array.mem_toList_iff.2 (Array.getElem_mem hlt)) h2
  | succ fuel ih =>
    intro listed a w hcnt hsz hcl htl hsi
    by_cases hall : ∀ i, i < m → fl listed i = true
    · exact done (fuel + 1) listed a w hcnt hsz htl hall hsi
    · obtain ⟨i0, hi0, hmin⟩ : ∃ i0, (i0 < m ∧ fl listed i0 = false) ∧ ∀ j, j < i0 → fl listed j = true := by
        have hex : ∃ i, i < m ∧ fl listed i = false := by
          refine Classical.byContradiction fun hno => hall fun i hi => ?_
          cases h : fl listed i with
          | true => rfl
          | false => exact absurd ⟨i, hi, h⟩ hno
        obtain ⟨k, ⟨h3, h4⟩, h5⟩ := exists_least _ hex
        refine ⟨k, ⟨h3, h4⟩, fun j hj => ?_⟩
        cases h : fl listed j with
        | true => rfl
        | false => have := h5 j ⟨by omega, h⟩; omega
      have ho0 : l[i0]? = some (l[i0]'(by omega)) := List.getElem?_eq_getElem _
      have hr0 : i0 ∈ Region.ready .any l.toArray listed := by
        refine mem_ready.2 ⟨?_, (l[i0]'(by omega)), by rw [List.getElem?_toArray]; exact ho0, fun e he hb => hmin e.on (hk.back i0 _ ho0 e he hb)⟩
        have := hi0.2
        unfold fl at this
        have hlt : i0 < listed.size := by omega
        simp [hlt] at this ⊢
        exact this
      refine ⟨(fun h => by rw [h] at hr0; cases hr0), fun i hi => ?_⟩
      obtain ⟨h3, o, ho', hev⟩ := mem_ready.1 hi
      have ho : l[i]? = some o := by simpa using ho'
      have hilt := lt_of_get ho
      have hcl' : ∀ j oj, l[j]? = some oj → (decide (j = i) || fl listed j) = true → ∀ e ∈ oj.after, Region.binds .any e = true → (decide (e.on = i) || fl listed e.on) = true := fun j oj hj hfj e he hb => by
        simp only [Bool.or_eq_true, decide_eq_true_eq] at hfj ⊢
        rcases hfj with rfl | hfj
        · rw [ho] at hj; cases hj
          exact .inr (hev e he hb)
        · exact .inr (hcl j oj hj hfj e he hb)
      have him : i < m := by
        rcases Nat.lt_or_ge i m with h | h
        · exact h
        · have := hk.tail (fun j => decide (j = i) || fl listed j) hcl' i h hilt (by simp) i0 (by omega)
          have hne : ¬ i0 = i := by omega
          simp [hne, hi0.2] at this
      have hnl : fl listed i = false := by
        have hlt : i < listed.size := by omega
        unfold fl
        simp [hlt] at h3 ⊢
        exact h3
      obtain ⟨hdst, hy, _, _⟩ := h1 i o him ho
      obtain ⟨I, ρ, he, hinv, hs, hrel, hrelT, hmk⟩ := hsi
      -- two operations that use the same own block
      have hbefore : ∀ j k, j < i → ((D.getD j ([], false)).2 = true ∨ (D.getD i ([], false)).2 = true) → k ∈ (D.getD j ([], false)).1 → k ∈ (D.getD i ([], false)).1 → fl listed j = true := by
        intro j k hji hw hkj hki
        have := drawD_spec hD (fun j => decide (j = i) || fl listed j) hcl' hji him hw hkj hki (by simp)
        have hne : ¬ j = i := by omega
        simpa [hne] using this
      have hafter : ∀ j k, i < j → j < m → ((D.getD i ([], false)).2 = true ∨ (D.getD j ([], false)).2 = true) → k ∈ (D.getD i ([], false)).1 → k ∈ (D.getD j ([], false)).1 → fl listed j = false := by
        intro j k hij hj hw hki hkj
        cases hf : fl listed j with
        | false => rfl
        | true =>
          have := drawD_spec hD (fl listed) hcl hij hj hw hki hkj hf
          rw [hnl] at this; cases this
      have hF : mask (fun k => (HH wrt (fl listed) H m).getD k .dead) (difL S (D.getD i ([], false)).1) 0 (Hx i) = HH wrt (fl listed) H m := by
        apply List.ext_getElem?
        intro k
        rw [mask_get, Nat.zero_add]
        have hlx : (Hx i).length = H.length := by rw [hHx i (by omega)]; exact hlen _ _
        by_cases hin : k ∈ difL S (D.getD i ([], false)).1
        · rw [if_pos (by simpa using hin)]
          by_cases hkl : k < H.length
          · have e1 : k < (Hx i).length := by omega
            have e2 : k < (HH wrt (fl listed) H m).length := by rw [hlen]; exact hkl
            rw [List.getElem?_eq_getElem e1, List.getElem?_eq_getElem e2]
            simp [List.getD_eq_getElem?_getD, e2]
          · have e1 : (Hx i).length ≤ k := by omega
            have e2 : (HH wrt (fl listed) H m).length ≤ k := by rw [hlen]; omega
            rw [List.getElem?_eq_none e1, List.getElem?_eq_none e2]; rfl
        · rw [if_neg (by simpa using hin), hHx i (by omega)]
          have hor : k ∉ S ∨ k ∈ (D.getD i ([], false)).1 := by
            rw [mem_difL] at hin
            by_cases h : k ∈ S
            · exact .inr (Classical.byContradiction fun h2 => hin ⟨h, h2⟩)
            · exact .inl h
          have := HH_get (wrt := wrt) (f := fl listed) (H0 := H) (k := k) (i := i) (m := m)
            (fun j hj hji hw => by
              obtain ⟨b, hw⟩ := hw
              obtain ⟨h4, h5, h6, _⟩ := hwrt j k b hj hw
              rcases hor with h | h
              · exact absurd h6 h
              · exact hbefore j k hji (.inl h5) h4 h)
            (fun j hj hij hw => by
              obtain ⟨b, hw⟩ := hw
              obtain ⟨h4, h5, h6, _⟩ := hwrt j k b hj hw
              rcases hor with h | h
              · exact absurd h6 h
              · by_cases e : j = i
                · subst e; exact hnl
                · exact hafter j k (by omega) hj (.inr h5) h h4) m (Nat.le_refl _)
          rw [this, Nat.min_eq_right (by omega)]
      have hU : HH wrt (fl (listed.setIfInBounds i true)) H m = app (wrt i) (HH wrt (fl listed) H m) := by
        have := HH_upd (wrt := wrt) (f := fl listed) (g := fl (listed.setIfInBounds i true)) (H0 := H) him hnl (fun j => by rw [fl_set (by omega)]) (fun j hij hj hf k b1 b2 hw1 hw2 => by
          obtain ⟨h4, h5, _⟩ := hwrt j k b1 hj hw1
          obtain ⟨h6, h7, _⟩ := hwrt i k b2 him hw2
          have := hafter j k hij hj (.inl h7) h6 h4
          rw [hf] at this; cases this) m (Nat.le_refl _)
        rw [this, if_pos him]
      have hlook : ∀ s v, lk (restr l.toArray o (Tx i)) s = some v → RelV P w I ρ v (a.tmps.getD s undef) := by
        intro s v hv
        unfold restr at hv
        rw [lk_filterMap] at hv
        split at hv
        · rename_i hs'
          rw [hlk i (by omega)] at hv
          refine hrel s v ?_
          rw [← hv]
          refine tl_congr hk fun j oj hj hd => ?_
          by_cases hji : j = i
          · subst hji; rw [hnl]; simp
          · obtain ⟨k1, k2⟩ := hk.look (fun j => decide (j = i) || fl listed j) hcl' i j o oj s ho hj hs' hd (Ne.symm hji)
            rcases Nat.lt_trichotomy j i with h | h | h
            · have := k1 h (by simp)
              simp [hji] at this
              simp [this, h]
            · exact absurd h hji
            · have hkf := hk.look (fl listed) hcl i j o oj s ho hj hs' hd (Ne.symm hji)
              cases hfj : fl listed j with
              | false => simp; omega
              | true => have := hkf.2 h hfj; rw [hnl] at this; cases this
        · cases hv
      have htr : TRel P w I ρ N (restr l.toArray o (Tx i)) a.tmps := ⟨hs, hlook⟩
      have next : ∀ u w' I' ρ', ExtW w I ρ w' I' ρ' → Inv P w' I' ρ' (app (wrt i) (HH wrt (fl listed) H m)) → RelV P w' I' ρ' (vs i) u → (∀ s v, tl l T vs (fl listed) s = some v → RelV P w' I' ρ' v (a.tmps.getD s undef)) →
          (∀ s v, lk T s = some v → (∀ j o, l[j]? = some o → fl listed j = true → o.dst ≠ some s) → RelV P w' I' (ρ'.take n0) v (a.tmps.getD s undef)) → Marks κ B w' I' ρ' a.defers →
          wpAnyIn (Fr R) 0 P .any l.toArray QX fuel (listed.setIfInBounds i true) (a.put o.dst u) w' := by
        intro u w' I' ρ' he' hinv' hu hold holdT hmk'
        refine ih (listed.setIfInBounds i true) (a.put o.dst u) w' ?_ (by simp [hsz]) ?_ ?_ ?_
        · have hlt : i < listed.size := by omega
          have h5 : listed.toList[i]? = some false := by
            unfold fl at hnl
            simp [hlt] at hnl ⊢
            exact hnl
          have := count_set listed.toList i h5
          rw [Array.toList_setIfInBounds]
          omega
        · intro j oj hj hfj e hee hb
          rw [fl_set (by omega)] at hfj ⊢
          exact hcl' j oj hj hfj e hee hb
        · intro j hj
          rw [fl_set (by omega), htl j hj]
          have : ¬ j = i := by omega
          simp [this]
        · refine ⟨I', ρ', he.trans he', by rw [hU]; exact hinv', by cases o.dst <;> simp [Act.put, hs], fun s v hv => ?_, fun s v hv hno => ?_, hmk'.put⟩
          · cases hd : o.dst with
            | none =>
              have e1 : tl l T vs (fl (listed.setIfInBounds i true)) s = tl l T vs (fl listed) s := tl_congr hk fun j oj hj hdj => by
                rw [fl_set (by omega)]
                have : j ≠ i := fun e => by
                  subst e
                  rw [ho] at hj; cases hj
                  rw [hd] at hdj; cases hdj
                simp [this]
              rw [e1] at hv
              exact hold s v hv
            | some d =>
              have hlt : d < N := by
                rw [hd] at hdst
                simpa [dstOk, Nat.blt, Nat.lt_iff_add_one_le] using hdst
              by_cases hsd : d = s
              · subst hsd
                have e1 : tl l T vs (fl (listed.setIfInBounds i true)) d = some (vs i) := tl_some hk ho (by rw [fl_set (by omega)]; simp) hd
                rw [e1] at hv
                cases hv
                have h6 : d < a.tmps.size := by rw [hs]; exact hlt
                simpa [Act.put, h6] using hu
              · have e1 : tl l T vs (fl (listed.setIfInBounds i true)) s = tl l T vs (fl listed) s := tl_congr hk fun j oj hj hdj => by
                  rw [fl_set (by omega)]
                  have : j ≠ i := fun e => by
                    subst e
                    rw [ho] at hj; cases hj
                    rw [hd] at hdj; cases hdj
                    exact hsd rfl
                  simp [this]
                rw [e1] at hv
                have := hold s v hv
                simpa [Act.put, hsd] using this
          · have hno' : ∀ j o, l[j]? = some o → fl listed j = true → o.dst ≠ some s := fun j oj hj hf => hno j oj hj (by rw [fl_set (by omega), hf]; simp)
            have := holdT s v hv hno'
            cases hd : o.dst with
            | none => exact this
            | some d =>
              have hsd : d ≠ s := fun e => hno i o ho (by rw [fl_set (by omega)]; simp) (by rw [hd, e])
              simpa [Act.put, hsd] using this
      have nextE : ∀ u w' I' ρ', Ext w I ρ w' I' ρ' → Inv P w' I' ρ' (app (wrt i) (HH wrt (fl listed) H m)) → RelV P w' I' ρ' (vs i) u → wpAnyIn (Fr R) 0 P .any l.toArray QX fuel (listed.setIfInBounds i true) (a.put o.dst u) w' := by
        intro u w' I' ρ' he' hinv' hu
        refine next u w' I' ρ' he'.w hinv' hu (fun s v hv => (hrel s v hv).ext he') (fun s v hv hno => ?_) (hmk.ext he')
        have h4 := hrelT s v hv hno
        have h5 : ρ.take n0 <+: ρ'.take n0 := by
          obtain ⟨t, ht⟩ := he'.pre
          rw [← ht, List.take_append]
          exact ⟨_, rfl⟩
        exact RelV.mono he'.w.imm he'.w.immKeep h5 (fun b _ s hs => he'.w.shape b s hs) v _ h4
      rcases hy with ⟨_, hw, _, _, hy⟩ | ⟨_, hg, _, _, k, blk, hw, hku, hkS, _, hop⟩ | ⟨hwr, hg, k, blk, v0, w1, hw, hw1, _, hus, hkS, hk0, hkL, hbs, hv0, hvi, hkl, hop⟩
      · have hy := hy (fun k => (HH wrt (fl listed) H m).getD k .dead)
        rw [hF] at hy
        have nextE : ∀ u w' I' ρ', Ext w I ρ w' I' ρ' → Inv P w' I' ρ' (HH wrt (fl listed) H m) → RelV P w' I' ρ' (vs i) u → wpAnyIn (Fr R) 0 P .any l.toArray QX fuel (listed.setIfInBounds i true) (a.put o.dst u) w' := by
          rw [hw] at nextE; exact nextE
        unfold wpOpIn
        simp only [ho']
        rcases hy with ⟨hg, hop⟩ | ⟨j, want, s, c, x, v', hg, hsl, hsN, hb, hc, hv, hop⟩
        · simp only [Region.wanted, hg, if_true]
          exact hop R w I ρ a hinv htr _ _ nextE
        · have hyl := yielded_of hsl htr hsN hb hc
          simp only [Region.wanted, hg, hyl]
          cases c with
          | true =>
            simp only [if_true]
            obtain ⟨T2, hsub, hop⟩ := hop rfl
            exact hop R w I ρ a hinv (htr.subG hsub) _ _ fun u w' I' ρ' he' hi' hu => nextE u w' I' ρ' he' hi' (by rw [hv]; exact ⟨fun _ => hu, (fun h => by cases h)⟩)
          | false =>
            simp only [Bool.false_eq_true, if_false]
            exact ⟨about_wide, nextE undef w I ρ (Ext.refl _ _ _) hinv (by rw [hv]; exact ⟨(fun h => by cases h), fun _ => rfl⟩)⟩
      · have hop := hop (fun k => (HH wrt (fl listed) H m).getD k .dead)
        rw [mask_set (fun h => (mem_difL.1 h).2 hku), hF] at hop
        unfold wpOpIn
        simp only [ho']
        simp only [Region.wanted, hg, if_true]
        exact hop R w I ρ a hinv htr _ _ (by rw [hw] at nextE; exact nextE)
      · have hop := hop (fun k => (HH wrt (fl listed) H m).getD k .dead)
        have hF1 : ∀ (w1 : List (Nat × Blk)) (X : List Blk), (∀ p ∈ w1, p.1 ∈ (D.getD i ([], false)).1) → mask (fun k => (HH wrt (fl listed) H m).getD k .dead) (difL S (D.getD i ([], false)).1) 0 (app w1 X) = app w1 (mask (fun k => (HH wrt (fl listed) H m).getD k .dead) (difL S (D.getD i ([], false)).1) 0 X) := by
          intro w1
          induction w1 with
          | nil => intro X _; rfl
          | cons p w1 ih2 =>
            intro X hp
            obtain ⟨k1, b1⟩ := p
            simp only [app]
            rw [ih2 _ (fun q hq => hp q (by simp [hq])), mask_set (fun h => (mem_difL.1 h).2 (hp (k1, b1) (by simp)))]
        rw [hF1 w1 _ (fun p hp => (hw1 p hp).1), hF] at hop
        unfold wpOpIn
        simp only [ho']
        simp only [Region.wanted, hg, if_true]
        refine hop R w I ρ a hinv htr _ _ fun u w' I' ρ' he' hi' hu => ?_
        have hlF0 : (HH wrt (fl listed) H m).length = H.length := hlen _ _
        have hlF : (app w1 (HH wrt (fl listed) H m)).length = H.length := (app_len _ _).trans hlF0
        have hlx : (Hx i).length = H.length := by rw [hHx i (by omega)]; exact hlen _ _
        have hρl : ρ.length = H.length := hinv.len.trans hlF0
        have hρl' : ρ'.length = H.length + 1 := by rw [hi'.len]; simp [hlF]
        have hkl' : k < H.length := by omega
        obtain ⟨b, hρ'⟩ : ∃ b, ρ' = ρ ++ [b] := by
          obtain ⟨t, ht⟩ := he'.pre
          have : t.length = 1 := by
            have := congrArg List.length ht
            simp at this
            omega
          match t, this with
          | [b], _ => exact ⟨b, ht.symm⟩
        subst hρ'
        have hg2 : ∀ j, j ≠ k → j < H.length → (ρ.set k b)[j]? = (ρ ++ [b])[j]? := fun j hj hjl => by
          rw [List.getElem?_set, if_neg (Ne.symm hj), List.getElem?_append_left (by omega)]
        have hτ : ∀ ms : List Nat, (∀ i ∈ ms, i < H.length ∧ i ≠ k) → ∀ i j c : Nat, sg n0 ms i = some j → (ρ ++ [b])[i]? = some c → (ρ.set k b)[j]? = some c := fun ms hms x y c hxy hc => by
          obtain ⟨rfl, hx⟩ := sg_id hxy
          rcases hx with hx | hx
          · rw [hg2 y (by omega) (by omega)]; exact hc
          · rw [hg2 y (hms y hx).2 (hms y hx).1]; exact hc
        have hσ : ∀ i j c : Nat, sw k H.length i = some j → (ρ ++ [b])[i]? = some c → (ρ.set k b)[j]? = some c := fun x y c hxy hc => by
          unfold sw at hxy
          by_cases e1 : x = H.length
          · have hb1 : Nat.beq x H.length = true := by subst e1; exact Nat.beq_refl _
            rw [hb1] at hxy
            cases hxy
            subst e1
            rw [← hρl, List.getElem?_append_right (Nat.le_refl _)] at hc
            simp at hc
            subst hc
            rw [List.getElem?_set_self (by omega)]
          · have hb1 : Nat.beq x H.length = false := by
              cases h : Nat.beq x H.length with
              | false => rfl
              | true => exact absurd (Nat.eq_of_beq_eq_true h) e1
            rw [hb1] at hxy
            by_cases e2 : x = k
            · have hb2 : Nat.beq x k = true := by subst e2; exact Nat.beq_refl _
              rw [hb2] at hxy
              cases hxy
            · have hb2 : Nat.beq x k = false := by
                cases h : Nat.beq x k with
                | false => rfl
                | true => exact absurd (Nat.eq_of_beq_eq_true h) e2
              rw [hb2] at hxy
              cases hxy
              have hxl : x < H.length := by
                have := (List.getElem?_eq_some_iff.1 hc).1
                simp at this
                omega
              rw [hg2 x e2 hxl]; exact hc
        have hat : ∀ (j c : Nat) (x : Blk), (ρ.set k b)[j]? = some c → ((app w1 (HH wrt (fl listed) H m)).set k blk)[j]? = some x → ∃ j', (ρ ++ [b])[j']? = some c ∧ (app w1 (HH wrt (fl listed) H m) ++ [blk])[j']? = some x ∧ j' = (if j = k then H.length else j) := by
          intro j c x h4 h5
          by_cases e : j = k
          · subst e
            rw [List.getElem?_set_self (by omega)] at h4 h5
            cases h4; cases h5
            refine ⟨H.length, ?_, ?_, by simp⟩
            · rw [← hρl, List.getElem?_append_right (Nat.le_refl _)]; simp
            · rw [← hlF, List.getElem?_append_right (Nat.le_refl _)]; simp
          · rw [List.getElem?_set, if_neg (Ne.symm e)] at h4 h5
            refine ⟨j, ?_, ?_, by rw [if_neg e]⟩
            · rw [List.getElem?_append_left (List.getElem?_eq_some_iff.1 h4).1]; exact h4
            · rw [List.getElem?_append_left (List.getElem?_eq_some_iff.1 h5).1]; exact h5
        have hkey : ∀ j, j < m → fl listed j = true → ∀ x, x ∈ (D.getD j ([], false)).1 → x ∈ Ls (j + 1) → x ≠ k ∧ x < H.length := by
          intro j hjm h5 x hx1 hx2
          have hji : j ≠ i := fun e => by rw [e, hnl] at h5; cases h5
          constructor
          · rintro rfl
            have hc1 : (D.getD i ([], false)).2 = true := hwr
            have hki : x ∈ (D.getD i ([], false)).1 := hus
            rcases Nat.lt_or_gt_of_ne hji with h | h
            · exact hkL (hLmono (j + 1) i x (by omega) (by omega) hx2)
            · have := hafter j x h hjm (.inl hc1) hki hx1
              rw [h5] at this; cases this
          · obtain ⟨i2, h7, h8, h9, h10, h11⟩ := hLmem (j + 1) x (by omega) hx2
            obtain ⟨o2, ho2⟩ := hget i2 (by omega)
            obtain ⟨_, hst, _⟩ := h1 i2 o2 (by omega) ho2
            rcases hst with ⟨h12, _⟩ | ⟨_, _, h12, _⟩ | ⟨_, _, k2, blk2, v2, _, _, _, h13, h14, _, _, _, _, _, _, h15, _⟩
            · rw [h9] at h12; cases h12
            · rw [h12] at h11; exact absurd h11 h10
            · rw [h13] at h11
              rcases List.mem_cons.1 h11 with h16 | h16
              · rw [hHx i2 (by omega), hlen] at h15
                rw [h16]; exact h15
              · exact absurd h16 h10
        have hstb : ∀ x ∈ (app w1 (HH wrt (fl listed) H m) ++ [blk]), ∃ ms : List Nat, renB (sg n0 ms) x = x ∧ ∀ y ∈ ms, y < H.length ∧ y ≠ k := fun x hx => by
          rcases List.mem_append.1 hx with h | h
          · rcases mem_app h with h | ⟨q, h⟩
            · obtain ⟨ms, h2, h3⟩ := hsta _ m (Nat.le_refl _) x h
              refine ⟨ms, h2, fun y hy => ?_⟩
              obtain ⟨j, h4, h5, h6, h7⟩ := h3 y hy
              have := hkey j h4 h5 y h6 (hLmono j (j + 1) y (by omega) (by omega) h7)
              exact ⟨this.2, this.1⟩
            · exact ⟨[], (hw1 _ h).2.2, fun y hy => by cases hy⟩
          · simp at h; subst h; exact ⟨[], hbs, fun y hy => by cases hy⟩
        have hE2 : ExtW w I ρ w' I' (ρ.set k b) := by
          have hEw := he'.w
          exact ⟨hEw.os, hEw.tape, hEw.output, hEw.size, hEw.keep, hEw.shape, hEw.imm, hEw.immKeep, hEw.immNew, hEw.nf, hEw.defKeep, hEw.defI, fun c hc => by
            rcases List.mem_or_eq_of_mem_set hc with h | rfl
            · exact .inl h
            · exact hEw.new c (by simp)⟩
        have hI2 : Inv P w' I' (ρ.set k b) ((app w1 (HH wrt (fl listed) H m)).set k blk) := by
          refine ⟨by simp [hρl, hlF], fun j c x h4 h5 h6 => ?_, hi'.ib, fun j c x h4 h5 h6 => ?_, fun j j' c x y h4 h5 h6 h7 h8 h9 => ?_, fun j c x h4 h5 => ?_, hi'.gl⟩
          · obtain ⟨j', k1, k2, _⟩ := hat j c x h4 h5
            exact hi'.bnd j' c x k1 k2 h6
          · obtain ⟨j', k1, k2, _⟩ := hat j c x h4 h5
            exact hi'.live j' c x k1 k2 h6
          · obtain ⟨i1, k1, k2, k3⟩ := hat j c x h4 h6
            obtain ⟨i2, k4, k5, k6⟩ := hat j' c y h5 h7
            have := hi'.dist i1 i2 c x y k1 k4 k2 k5 h8 h9
            subst this
            have hj1 : j < H.length := by have := (List.getElem?_eq_some_iff.1 h4).1; simp at this; omega
            have hj2 : j' < H.length := by have := (List.getElem?_eq_some_iff.1 h5).1; simp at this; omega
            rw [k3] at k6
            by_cases e1 : j = k <;> by_cases e2 : j' = k
            · omega
            · rw [if_pos e1, if_neg e2] at k6; omega
            · rw [if_neg e1, if_pos e2] at k6; omega
            · rw [if_neg e1, if_neg e2] at k6; exact k6
          · obtain ⟨j', k1, k2, _⟩ := hat j c x h4 h5
            obtain ⟨ms, m1, m2⟩ := hstb x (List.mem_of_getElem? k2)
            have := renB_rel (hτ ms m2) (hi'.rel j' c x k1 k2)
            rwa [m1] at this
        refine next u w' I' (ρ.set k b) hE2 (by rw [hw, app_app]; exact hI2) ?_ (fun s v hv => ?_) (fun s v hv hno => ?_) ?_
        · rw [hv0, hlx]
          exact renV_rel hσ v0 u hu
        · by_cases hex : ∃ j oj, l[j]? = some oj ∧ fl listed j = true ∧ oj.dst = some s
          · obtain ⟨j, oj, h4, h5, h6⟩ := hex
            have hv' := hv
            rw [tl_some hk h4 h5 h6] at hv
            cases hv
            have hjm : j < m := by
              rcases Nat.lt_or_ge j m with h | h
              · exact h
              · rw [htl j h] at h5; cases h5
            have hji : j ≠ i := fun e => by rw [e, hnl] at h5; cases h5
            have hrelj := (hrel s _ hv').ext he'
            have hkey := hkey j hjm h5
            obtain ⟨_, hstj, _⟩ := h1 j oj hjm h4
            have hmsj : ∃ ms : List Nat, renV (sg n0 ms) (vs j) = vs j ∧ ∀ x ∈ ms, x ∈ (D.getD j ([], false)).1 ∧ x ∈ Ls (j + 1) := by
              rcases hstj with ⟨_, _, h7, h8, _⟩ | ⟨_, _, h7, h8, _⟩ | ⟨_, _, k2, blk2, v2, _, _, _, h7, h8, _, _, _, _, _, h9, _⟩
              · exact ⟨_, h8, fun x hx => by rw [h7]; simpa [intL] using hx⟩
              · exact ⟨_, h8, fun x hx => by rw [h7]; simpa [intL] using hx⟩
              · exact ⟨_, h9, fun x hx => by simp at hx; subst hx; exact ⟨h8, by rw [h7]; simp⟩⟩
            obtain ⟨ms, hms1, hms2⟩ := hmsj
            have := renV_rel (hτ ms (fun x hx => ⟨(hkey x (hms2 x hx).1 (hms2 x hx).2).2, (hkey x (hms2 x hx).1 (hms2 x hx).2).1⟩)) (vs j) _ hrelj
            rwa [hms1] at this
          · have hno : ∀ j o, l[j]? = some o → fl listed j = true → o.dst ≠ some s := fun j oj h4 h5 h6 => hex ⟨j, oj, h4, h5, h6⟩
            rw [tl_none hno] at hv
            have h4 := hrelT s v hv hno
            have h5 : ρ.take n0 <+: ρ.set k b := by
              rw [List.prefix_iff_eq_take, List.take_set_of_le (by simp; omega), List.length_take, Nat.min_eq_left (by omega)]
            exact RelV.mono he'.w.imm he'.w.immKeep h5 (fun b _ s hs => he'.w.shape b s hs) v _ h4
        · have h4 := hrelT s v hv hno
          have h5 : ρ.take n0 <+: (ρ.set k b).take n0 := by
            rw [List.take_set_of_le (by omega)]
            exact List.prefix_refl _
          exact RelV.mono he'.w.imm he'.w.immKeep h5 (fun b _ s hs => he'.w.shape b s hs) v _ h4
        · have hm2 := hmk.ext he'
          obtain ⟨q1, q2, q3, q4⟩ := hm2
          refine ⟨q1, q2, ?_, q4⟩
          obtain ⟨_, _, q5, _⟩ := hmk
          rw [List.prefix_iff_eq_take] at q5 ⊢
          rw [List.take_set_of_le (by omega)]
          exact q5

theorem To.pads {κ : Nat} : ∀ (r : Nat) {H : List Blk}, To P κ N T H T (H ++ deads r)
  | 0, H => by simpa [deads] using To.refl
  | r + 1, H => by
    have := (To.pad (P := P) (κ := κ) (N := N) (T := T) (H := H)).trans (To.pads r (H := H ++ [.dead]))
    simpa [deads] using this

/-- **A region that draws its order**, by one pass in the order of the text: the first m operations may lay own blocks, at r places that are kept for them, and write own blocks of S; the others are forced to come behind them, in their order. -/
theorem AWp.regionDrawG {id : Nat} (m r : Nat) (S : List Nat) (D : List (List Nat × Bool)) (hmx : P.follows .mixedOrders = true) (hk : drawOk m l = true) (hm : m ≤ l.length) (hD : drawD m l D = true) (hκ : Nat.ble κ H.length = true) (hH : H.map (renB (sg H.length [])) = H)
    (h : AQG P N l.toArray S H.length (fun T' H' => AList P R N κ l.toArray (l.drop m) Q T' H') [] D (l.take m) T (H ++ deads r)) : AWp P R N κ (.region id l.toArray true) Q T H := by
  intro B w I ρ a hi ht hmk
  have hκ : κ ≤ H.length := by simpa using hκ
  obtain ⟨vs, Tx, Hx, wrt, Ls, h0, h0', h0'', h1, h2⟩ := AQG.vals h
  have hlen : (l.take m).length = m := by simp; omega
  rw [hlen] at h2
  refine wpIn_region_any hmx ?_
  have hi' : Inv P w.drew I ρ H := hi.drew
  obtain ⟨I2, ρ2, hE, hi2, _, hp⟩ := To.pads (P := P) (κ := ρ.length) (N := N) (T := T) r w.drew I ρ a.tmps hi' (ht.ext Ext.drew)
  have hpre : ρ <+: ρ2 := hp ρ (List.prefix_refl _) (Nat.le_refl _)
  have hρl : ρ.length = H.length := hi.len
  have htk : ρ2.take H.length = ρ := by
    rw [← hρl]; exact (List.prefix_iff_eq_take.1 hpre).symm
  have hE0 : ExtW w I ρ w.drew I2 ρ2 := (Ext.drew (w := w) (I := I) (ρ := ρ)).w.trans hE
  have hrT : ∀ s v, lk T s = some v → RelV P w.drew I2 ρ v (a.tmps.getD s undef) := fun s v hv =>
    RelV.mono hE.imm (fun _ _ => rfl) (List.prefix_refl ρ) (fun _ _ _ hs => hs) v _ ((ht.at_ s v hv).ext (Ext.drew (w := w) (I := I) (ρ := ρ)))
  have hH' : ∀ x ∈ H, renB (sg H.length []) x = x := fun x hx => by
    obtain ⟨i, hil, rfl⟩ := List.getElem_of_mem hx
    have : (H.map (renB (sg H.length [])))[i]? = H[i]? := by rw [hH]
    rw [List.getElem?_map, List.getElem?_eq_getElem hil] at this
    simpa using this
  refine draw_mainG (κ := κ) (DrawOk.of hk) hm hD (B := B) (w0 := w) (I0 := I) (ρ0 := ρ) h0 h0' h0'' (by simp) (fun x hx => ?_) (Nat.le_trans hmk.2.1 hκ) (fun i o him ho => h1 i o (by rw [List.getElem?_take, if_pos him]; exact ho)) ?_ _ _ a w.drew (by simp) (by simp) ?_ ?_ ?_
  · rcases List.mem_append.1 hx with h | h
    · exact hH' x h
    · have : ∀ r, x ∈ deads r → x = .dead := by
        intro r
        induction r with
        | zero => intro h; cases h
        | succ r ih => intro h; rcases List.mem_cons.1 h with h | h
                       · exact h
                       · exact ih h
      rw [this r h]; rfl
  · intro a' w' I' ρ' he hi2 ht2 hm2
    exact h2 _ B w' I' ρ' a' hi2 ht2 hm2 fun e a2 w2 q => QC.ext he q
  · intro i o ho hf
    have hlt := lt_of_get ho
    simp [fl, hlt] at hf
  · intro i _
    unfold fl
    by_cases hlt : i < l.length <;> simp [hlt]
  · have hnone : ∀ f : Nat, HH wrt (fl (Array.replicate l.length false)) (H ++ deads r) f = H ++ deads r := by
      intro f
      induction f with
      | zero => rfl
      | succ f ih =>
        have e0 : fl (Array.replicate l.length false) f = false := by
          unfold fl
          by_cases hlt : f < l.length <;> simp [hlt]
        simp only [HH, e0, cond_false, ih]
    refine ⟨I2, ρ2, hE0, by simpa only [List.size_toArray, hnone] using hi2, ht.size, fun s v hv => ?_, fun s v hv _ => ?_, hmk.extW hE0 (hmk.2.2.1.trans hpre)⟩
    · rw [tl_none (fun j o hj hf => by
        unfold fl at hf
        by_cases hlt : j < l.length <;> simp [hlt] at hf)] at hv
      exact RelV.mono (fun _ h => h) (fun _ _ => rfl) hpre (fun _ _ _ hs => hs) v _ (hrT s v hv)
    · rw [htk]; exact hrT s v hv

end
end
end Go.AF
end

section
set_option linter.unusedVariables false
set_option linter.unusedSimpArgs false
set_option linter.unusedSectionVars false
set_option linter.unnecessarySimpa false
namespace Go.AF
section
variable {P : Program} {R : Option Nat} {N κ : Nat} {Q Q' : Post} {T T' T2 T3 : Tm} {H H' H2 H3 : List Blk} {o : Oper} {ops : Array Oper} {rest : List Oper}

theorem range_rep {α : Type} [Inhabited α] (z : List α) (hz : 0 < z.length) : ∀ n : Nat, (List.range (n * z.length)).map (fun i => z[i % z.length]!) = (List.replicate n z).flatten
  | 0 => by simp
  | n + 1 => by
    rw [List.replicate_succ', List.flatten_append, ← range_rep z hz n, Nat.succ_mul, List.range_add, List.map_append]
    congr 1
    simp only [List.flatten_cons, List.flatten_nil, List.append_nil, List.map_map]
    apply List.ext_getElem?
    intro i
    rw [List.getElem?_map]
    by_cases h : i < z.length
    · simp [List.getElem?_range h, Nat.mod_eq_of_lt h, h]
    · rw [List.getElem?_eq_none (by simpa using h), List.getElem?_eq_none (by omega)]; rfl

theorem OpJ.makeSlice {x y : Operand} {t e : TypeId} {z : List PV} {n c by_ : Nat} (ho : o.op = .makeSlice t x y) (hx : ev T x = some (.p (.int .i64 (n : Int)))) (hy : ev T y = some (.p (.int .i64 (c : Int)))) (hs : slI P t = some (e, z)) (hby : byI P e = some by_) (hb0 : 0 < by_)
    (hnc : n ≤ c) (hb : by_ * c ≤ 281474976710656) : OpJ P N o T H (.row H.length n) (H ++ [.row ((List.replicate n z).flatten.map .p) e]) :=
  OpJ.of_run (by simp [ho]) fun w I ρ a hi hT => by
    obtain ⟨hu, ⟨b, ht⟩, hz0, hz⟩ := slI_some hs
    obtain ⟨uz, h1, h2⟩ := hz w
    have h3 := h2 I
    have h4 := RelL.length h3
    simp only [Array.length_toList] at h4
    obtain ⟨inf, hinf, rfl⟩ : ∃ inf, P.info? e = some inf ∧ inf.bytes = by_ := by
      unfold byI at hby
      cases hP : P.info? e with
      | none => rw [hP] at hby; cases hby
      | some inf => rw [hP] at hby; exact ⟨inf, rfl, by simpa using hby⟩
    have hc : c ≤ 281474976710656 := Nat.le_trans (Nat.le_mul_of_pos_left c hb0) hb
    have hask : ∀ k w, (askRoom k).run P w = .ok () w := fun k w => by
      unfold askRoom
      split <;> simp [mark, Sem.run]
    have wn : IntKind.i64.wrap (n : Int) = n := i64ok (by omega)
    have wc : IntKind.i64.wrap (c : Int) = c := i64ok (by omega)
    have hEl : ∀ (cs : Array Value), cs.toList = (List.replicate c uz.cells.toList).flatten → ∃ I' ρ', Ext w I ρ (w.alloc (.cells cs e)) I' ρ' ∧ Inv P (w.alloc (.cells cs e)) I' ρ' (H ++ [.row ((List.replicate n z).flatten.map .p) e]) ∧ RelV P (w.alloc (.cells cs e)) I' ρ' (.row H.length n) (.slice (some ⟨w.heap.size, 0, none⟩) n c) := by
      intro cs hcs
      have hE : Ext w I ρ (w.alloc (.cells cs e)) I (ρ ++ [w.heap.size]) := Ext.allocOwn hi _
      have htk : cs.toList.take ((List.replicate n z).flatten.map V.p).length = (List.replicate n uz.cells.toList).flatten := by
        have e1 : ((List.replicate n z).flatten.map V.p).length = n * z.length := by simp
        rw [e1, hcs, show c = n + (c - n) by omega, ← List.replicate_append_replicate, List.flatten_append, List.take_append_of_le_length (by simp [h4]), List.take_of_length_le (by simp [h4])]
      refine ⟨_, _, hE, Inv.allocOwn hi _ ⟨cs, heap_alloc_new w _, ?_, ?_⟩, ?_⟩
      · rw [← Array.length_toList, hcs]
        simp only [List.length_map, List.length_flatten, List.map_replicate, List.sum_replicate_nat]
        have e3 : uz.cells.toList.length = z.length := h4
        rw [e3]
        exact Nat.mul_le_mul_right _ hnc
      · rw [htk]
        exact RelVL.ext hE (RelVL.pure.2 (RelL.repl h3 n))
      · refine ⟨w.heap.size, e, c, by rw [← hi.len]; simp, rfl, ?_, hnc⟩
        obtain ⟨d, i, _, h5, _, h6⟩ := tyI_some ht
        have hsz : cs.size = c * z.length := by
          rw [← Array.length_toList, hcs]; simp [h4]
        simp only [World.shape?, heap_alloc_new, hsz, Program.cellsOf, h5, Option.map_some, Option.getD_some, h6]
    have hsz : uz.cells.size = z.length := h4
    obtain ⟨I', ρ', e2⟩ := hEl ((Array.range (c * z.length)).map (uz.cells[· % uz.cells.size]!)) (by
      rw [Array.toList_map, Array.toList_range]
      have := range_rep uz.cells.toList (by rw [Array.length_toList, hsz]; exact hz0) c
      rw [Array.length_toList, hsz] at this
      rw [← this, hsz]
      apply List.map_congr_left
      intro i _
      simp [getElem!_def])
    have g1 : ¬ ((c : Int) < 0) := by omega
    have g2 : ¬ ((n : Int) < 0) := by omega
    have g3 : ¬ ((c : Int) < (n : Int)) := by omega
    have g4 : ¬ ((281474976710656 : Int) < (inf.bytes : Int) * (c : Int)) := by
      have : ((inf.bytes * c : Nat) : Int) ≤ 281474976710656 := by omega
      rw [Int.natCast_mul] at this
      omega
    refine ⟨_, _, I', ρ', .inl ?_, e2⟩
    by_cases hc0 : c = 0
    · subst hc0
      obtain rfl : n = 0 := by omega
      have w0 : IntKind.i64.wrap 0 = 0 := by decide
      simp [execOp, ho, ev_int hT hx, ev_int hT hy, Instr.makeSlice, run_underlying hu, asInt, run_asIntOf, run_typeInfo w hinf, w0, hask, run_sizeOf' ht, newRow, newObj, Sem.run]
      have e0 : Array.range 0 = #[] := by decide
      rw [e0, Array.map_empty, Array.map_empty]
    · simp [execOp, ho, ev_int hT hx, ev_int hT hy, Instr.makeSlice, run_underlying hu, asInt, run_asIntOf, run_typeInfo w hinf, wn, wc, hask, run_sizeOf' ht, newRow, newObj, Sem.run, hc0, h1, g1, g2, g3, g4]
      intro h
      exact absurd h (by have := Nat.mul_pos (by omega : 0 < c) hz0; omega)

theorem OpJ.nilCheck {x : Operand} {i off : Nat} (ho : o.op = .nilCheck x) (hx : ev T x = some (.ptr i off)) : OpJ P N o T H (.ptr i off) H :=
  OpJ.of_pure (by simp [ho]) fun w I ρ a hi hT => by
    have h := hT.ev hx
    obtain ⟨b, hb, hu⟩ := h
    exact ⟨_, by simp [execOp, ho, hu], hT.ev hx⟩
/-! ### Loops that keep what will be looked at -/
def keepT (ks : List Nat) : Tm → Tm
  | [] => []
  | (s, v) :: T => bif ks.any (Nat.beq s) then (s, v) :: keepT ks T else keepT ks T
theorem lk_keepT (ks : List Nat) : ∀ (T : Tm) (s : Nat) (v : V), lk (keepT ks T) s = some v → lk T s = some v
  | [], s, v, h => by cases h
  | (a, u) :: T, s, v, h => by
    simp only [keepT] at h
    cases hk : ks.any (Nat.beq a) with
    | true =>
      rw [hk] at h
      simp only [cond_true, lk] at h ⊢
      cases hb : Nat.beq a s with
      | true => rw [hb] at h; exact h
      | false => rw [hb] at h; exact lk_keepT ks T s v h
    | false =>
      rw [hk] at h
      simp only [cond_false] at h
      have h2 := lk_keepT ks T s v h
      simp only [lk]
      cases hb : Nat.beq a s with
      | false => exact h2
      | true =>
        exfalso
        have e := Nat.eq_of_beq_eq_true hb
        subst e
        have gen : ∀ T : Tm, lk (keepT ks T) a = none := by
          intro T
          induction T with
          | nil => rfl
          | cons p T ih =>
            obtain ⟨c, u⟩ := p
            simp only [keepT]
            cases hc : ks.any (Nat.beq c) with
            | false => exact ih
            | true =>
              simp only [cond_true, lk]
              cases hb2 : Nat.beq c a with
              | false => exact ih
              | true =>
                have e2 := Nat.eq_of_beq_eq_true hb2
                subst e2
                rw [hk] at hc; cases hc
        rw [gen T] at h; cases h
theorem Sub.chk {C T : Tm} {ks : List Nat} (h : Sub C T) : Sub (C ++ keepT ks T) T := by
  intro s v hv
  have app : ∀ (A B : Tm), lk (A ++ B) s = some v → lk A s = some v ∨ lk B s = some v := by
    intro A B
    induction A with
    | nil => intro h; exact .inr h
    | cons p A ih =>
      obtain ⟨a, u⟩ := p
      intro h
      simp only [List.cons_append, lk] at h ⊢
      cases hb : Nat.beq a s with
      | true => rw [hb] at h; exact .inl h
      | false => rw [hb] at h; exact ih h
  rcases app _ _ hv with h1 | h1
  · exact h s v h1
  · exact lk_keepT ks T s v h1
theorem AWp.loopHL {γ : Type} {c : Code} (ks : List Nat) (ch : γ → Tm) (Hs : γ → List Blk) (inv : γ → Prop) (μ : γ → Nat) (g0 : γ) (h0 : inv g0) (hto : To P κ N T H (ch g0 ++ keepT ks T) (Hs g0))
    (round : ∀ g, inv g → AWp P R N κ c (AX.then (fun T' H' => ∃ g', inv g' ∧ μ g' < μ g ∧ To P κ N T' H' (ch g' ++ keepT ks T) (Hs g')) Q) (ch g ++ keepT ks T) (Hs g)) : AWp P R N κ (.loop c) Q T H :=
  AWp.loopT (fun g => ch g ++ keepT ks T) Hs inv μ g0 h0 hto round

theorem frzV_acc {i j n : Nat} {xs : List PV} (h : Nat.beq j i = false) : frzV i xs (accV j n) = accV j n := by
  have hne : j ≠ i := fun e => by subst e; rw [Nat.beq_refl] at h; cases h
  cases n with
  | zero => rfl
  | succ n => simp [accV, frzV, hne]
end
end Go.AF
end

section
set_option linter.unusedVariables false
namespace Go.AF
section
variable {P : Program} {R : Option Nat} {N κ : Nat} {Q : Post} {T : Tm} {H H' : List Blk} {o : Oper} {ops : Array Oper} {K : Tm → List Blk → Prop} {rest : List Oper} {S L us : List Nat} {n0 : Nat} {D : List (List Nat × Bool)}
theorem AQG.puts (d k : Nat) {blk : Blk} {v : V} (hd : o.dst = some d) (hdN : dstOk N (some d) = true) (hg : o.guard = none) (hk : us.elem k = true) (hS : S.elem k = true) (hop : ∀ g, OpJ P N o (restr ops o T) (mask g (difL S us) 0 H) v (mask g (difL S us) 0 (H.set k blk))) (hv : renV (sg n0 (intL us L)) v = v) (hb : renB (sg n0 (intL us L)) blk = blk)
    (next : AQG P N ops S n0 K L D rest ((d, v) :: T) (H.set k blk)) : AQG P N ops S n0 K L ((us, true) :: D) (o :: rest) T H :=
  ⟨v, [(k, blk)], L, by rw [hd]; exact hdN, .inr (.inl ⟨rfl, hg, rfl, hv, k, blk, rfl, by simpa using hk, by simpa using hS, hb, hop⟩), by rw [hd]; exact next⟩
end
end Go.AF
end

section
set_option linter.unusedVariables false
namespace Go.AF
section
variable {P : Program} {R : Option Nat} {N κ : Nat} {Q : Post} {T : Tm} {H H' : List Blk} {o : Oper}
end
end Go.AF
end

section
set_option linter.unusedVariables false
namespace Go.AF
section
variable {P : Program} {R : Option Nat} {N κ : Nat} {Q : Post} {T : Tm} {H H' : List Blk} {o : Oper}
/-- Is it a concrete type? -/
def conI (P : Program) (t : TypeId) : Bool :=
  match P.underlying t with
  | some (.interface _) => false
  | some _ => true
  | none => false
theorem OpJ.makeIface {t : TypeId} {x : Operand} {y : PV} (ho : o.op = .makeInterface t x) (hx : ev T x = some (.p y)) (ht : conI P t = true) : OpJ P N o T H (.p (.iface t y)) H :=
  OpJ.of_pure (by simp [ho]) fun w I ρ a hi hT => by
    have h := hT.ev hx
    unfold conI at ht
    cases hu : P.underlying t with
    | none => simp [hu] at ht
    | some d =>
      refine ⟨.iface t (a.eval x), ?_, a.eval x, rfl, h⟩
      cases d <;> simp [hu] at ht <;> simp [execOp, ho, Instr.makeInterface, run_underlying hu]
end
end Go.AF
end

section
set_option linter.unusedVariables false
namespace Go.AF
section
variable {P : Program} {R : Option Nat} {N κ : Nat} {Q : Post} {T : Tm} {H H' : List Blk} {o : Oper}
theorem OpJ.indexG {α : Type} {g : Nat → α} {x y : Operand} {t : TypeId} {kd : IntKind} {sz len k : Nat} {xs : List α} {f : α → List PV} (hg : ∀ k (h : k < xs.length), xs[k] = g k) (ho : o.op = .indexAddr t x y) (hx : ev T x = some (.p (.is (xs.flatMap f) len))) (hy : ev T y = some (.p (.int kd (k : Int)))) (ht : isSl P t = true)
    (he : elI P t = some sz) (hl : len = xs.length) (hf : ∀ x, (f x).length = sz) (h0 : 0 < sz) (hk : k < xs.length) : OpJ P N o T H (.p (.ip (f (g k)) 0)) H := by
  have h := OpJ.indexEl (P := P) (N := N) (H := H) ho hx hy ht he hl hf h0 hk
  rwa [hg k hk] at h
theorem OpJ.buildR {t : TypeId} {parts : Array (Nat × Operand)} {z : List PV} {ps : List (Nat × Nat)} {vs : List (Nat × V)} {r : List V} {v : V} (ho : o.op = .build t parts) (hb : bldI P t = some (z, ps)) (hv : evParts T parts.toList = some vs) (hr : abuild ps (z.map .p) vs = some r) (hw : aggOf r = v) : OpJ P N o T H v H := by
  subst hw; exact OpJ.build ho hb hv hr
theorem OpJ.isR {xs ys : List PV} {n : Nat} (h : OpJ P N o T H (.p (.is ys n)) H') (e : ys = xs) : OpJ P N o T H (.p (.is xs n)) H' := e ▸ h
/-- A call that may work on own blocks, and leaves one of many states. -/
theorem AList.callX (d : Nat) {ops : Array Oper} {rest : List Oper} {f : Operand} {xs : Array Operand} {ts : Array TypeId} {fv : V} {vs all : List V} {g : FuncId} {Qr : V → List Blk → Prop} (hp : ACalls P g all H Qr) (ho : o.op = .call { callee := .value f, args := xs, argTypes := ts }) (hd : o.dst = some d) (hN : dstOk N (some d) = true) (hgd : o.guard = none) (hf : ev T f = some fv)
    (hxs : evs T xs.toList = some vs) (hc : callee vs fv = some (g, all)) (hg : realFn P g = true) (next : ∀ v H', Qr v H' → AList P R N κ ops rest Q ((d, v) :: T) H') : AList P R N κ ops (o :: rest) Q T H := by
  intro QX B w I ρ a hi ht hm hq
  refine wpListIn_plain hgd fun K hK => ?_
  refine ⟨about_wide, ?_⟩
  rw [semAt_plain _ _ _ (by simp [ho])]
  obtain ⟨us, h1, h2⟩ := run_callOp ho ht hf hxs hc hg
  rw [h2]
  refine ⟨(fun h => by cases h), ?_⟩
  refine CallsIn.mono (callsIn_fr R (hp w I ρ us hi h1)) ?_
  rintro e w' ⟨u, v', J, σ, H2, rfl, hQ, h3, h4, h5⟩
  refine hK _ _ ?_
  refine next v' H2 hQ QX B w' J σ (a.put o.dst u) h4 (by rw [hd]; exact (ht.ext h3).put hN h5) ((hm.ext h3).put) fun e a2 w2 q => hq e a2 w2 (QC.ext h3.w q)
theorem FinO.many {fn : Func} {r1 r2 : ResultVar} {rs : List ResultVar} {vs : List V} {xs : List PV} {Qr : V → List Blk → Prop} (h : fn.results = (r1 :: r2 :: rs).toArray) (hr : ress P T H (r1 :: r2 :: rs) vs) (hv : vs = xs.map .p) (hq : Qr (.p (.tuple xs)) H) : FinO P N fn Qr .ret T H := by
  refine ⟨.inr rfl, .p (.tuple xs), ?_, hq⟩
  have := resV.many (N := N) h hr
  have e : tupOf vs = .p (.tuple xs) := by
    subst hv
    simp [tupOf, allP_map]
  rwa [e] at this
theorem FinO.one {fn : Func} {r : ResultVar} {v : V} {Qr : V → List Blk → Prop} (h : fn.results = #[r]) (hr : resOne P T H r v) (hq : Qr v H) : FinO P N fn Qr .ret T H :=
  ⟨.inr rfl, v, resV.one h hr, hq⟩
end
end Go.AF
end

section
set_option linter.unusedVariables false
namespace Go.AF
mutual
/-- A value, its empty slices by what is in them. -/
def wkP : PV → PV
  | .nilSlice => .is [] 0
  | .agg cs => .agg (wkPL cs)
  | .tuple cs => .tuple (wkPL cs)
  | .is cs n => .is (wkPL cs) n
  | .ip cs off => .ip (wkPL cs) off
  | x => x
def wkPL : List PV → List PV
  | [] => []
  | x :: xs => wkP x :: wkPL xs
end
mutual
theorem Rel.wk {w : World} {I : Nat → Prop} : ∀ (x : PV) (u : Value), Rel w I x u → Rel w I (wkP x) u
  | .nilSlice, u, h => .inl ⟨⟨none, 0, h⟩, rfl⟩
  | .agg cs, u, h => by
    obtain ⟨us, hu, h1⟩ := h
    exact ⟨us, hu, RelL.wk cs _ h1⟩
  | .tuple cs, u, h => by
    obtain ⟨us, hu, h1⟩ := h
    exact ⟨us, hu, RelL.wk cs _ h1⟩
  | .is cs n, u, h => by
    rcases h with h | ⟨b, o, cap, hb, hl, hu, hc⟩
    · exact .inl h
    · exact .inr ⟨b, o, cap, fun hn => hb (fun e => hn (by subst e; rfl)), hl, hu, RelAt.wk cs b o hc⟩
  | .ip cs off, u, h => by
    obtain ⟨b, o, hb, hu, hc⟩ := h
    exact ⟨b, o, hb, hu, RelAt.wk cs b o hc⟩
  | .bool _, _, h => h
  | .int _ _, _, h => h
  | .str _, _, h => h
  | .nilPtr, _, h => h
  | .nilMap, _, h => h
  | .nilFunc, _, h => h
  | .nilIface, _, h => h
  | .im _ _, _, h => h
  | .func _ _ _, _, h => h
  | .iface _ _, _, h => h
theorem RelL.wk {w : World} {I : Nat → Prop} : ∀ (xs : List PV) (us : List Value), RelL w I xs us → RelL w I (wkPL xs) us
  | [], us, h => h
  | c :: cs, us, h => by
    obtain ⟨u, us', hu, h1, h2⟩ := h
    exact ⟨u, us', hu, Rel.wk c u h1, RelL.wk cs us' h2⟩
theorem RelAt.wk {w : World} {I : Nat → Prop} : ∀ (xs : List PV) (b o : Nat), RelAt w I xs b o → RelAt w I (wkPL xs) b o
  | [], _, _, h => h
  | c :: cs, b, o, h => by
    obtain ⟨⟨u, hu, h1⟩, h2⟩ := h
    exact ⟨⟨u, hu, Rel.wk c u h1⟩, RelAt.wk cs b (o + 1) h2⟩
end
def wkV : V → V
  | .p x => .p (wkP x)
  | v => v
theorem RelV.wk {P : Program} {w : World} {I : Nat → Prop} {ρ : List Nat} (v : V) (u : Value) (h : RelV P w I ρ v u) : RelV P w I ρ (wkV v) u := by
  cases v <;> first | exact Rel.wk _ _ h | exact h
theorem RelVL.wk {P : Program} {w : World} {I : Nat → Prop} {ρ : List Nat} : ∀ (vs : List V) (us : List Value), RelVL P w I ρ vs us → RelVL P w I ρ (vs.map wkV) us
  | [], us, h => h
  | c :: cs, us, h => by
    obtain ⟨u, us', hu, h1, h2⟩ := h
    exact ⟨u, us', hu, RelV.wk c u h1, RelVL.wk cs us' h2⟩
section
variable {P : Program} {N κ : Nat} {T : Tm} {H : List Blk}
theorem To.wkS (s : Nat) {x : PV} (hs : lk T s = some (.p x)) : To P κ N T H ((s, .p (wkP x)) :: dropT [s] T) H := fun w I ρ tmps hi ht => by
  refine ⟨I, ρ, ExtW.refl _ _ _, hi, ⟨ht.size, fun a v hx => ?_⟩, fun L hL _ => hL⟩
  simp only [lk] at hx
  cases hb : Nat.beq s a with
  | true =>
    rw [hb] at hx
    have := Nat.eq_of_beq_eq_true hb
    subst this
    simp at hx
    subst hx
    exact Rel.wk x _ (ht.at_ s _ hs)
  | false =>
    rw [hb] at hx
    exact ht.at_ a v (lk_dropT [s] T a v hx)
theorem To.wkB (i : Nat) {cs : List V} {e : TypeId} (hH : H[i]? = some (.cells cs e)) : To P κ N T H T (H.set i (.cells (cs.map wkV) e)) := fun w I ρ tmps hi ht => by
  obtain ⟨b, hb⟩ : ∃ b, ρ[i]? = some b := by
    have h1 : i < H.length := (List.getElem?_eq_some_iff.1 hH).1
    rw [← hi.len] at h1
    exact ⟨ρ[i], List.getElem?_eq_getElem h1⟩
  refine ⟨I, ρ, ExtW.refl _ _ _, ?_, ht, fun L hL _ => hL⟩
  refine hi.write hb hH rfl (Ext.refl _ _ _) rfl (fun _ _ => rfl) ?_
  obtain ⟨arr, h1, h2⟩ := hi.rel i b _ hb hH
  exact ⟨arr, h1, RelVL.wk cs _ h2⟩
end
end Go.AF
end

section
set_option linter.unusedVariables false
namespace Go.AF
section
variable {P : Program} {R : Option Nat} {N κ : Nat} {Q : Post} {T : Tm} {H H' : List Blk} {o : Oper}
theorem frzL_pure {i : Nat} {xs : List PV} : ∀ l : List PV, frzL i xs (l.map .p) = l.map .p
  | [] => rfl
  | x :: l => by simp [frzL, frzV, frzL_pure l]
end
end Go.AF
end

section
set_option linter.unusedVariables false
namespace Go.AF
theorem frzL_app (i : Nat) (xs : List PV) : ∀ a b : List V, frzL i xs (a ++ b) = frzL i xs a ++ frzL i xs b
  | [], b => rfl
  | x :: a, b => by simp only [List.cons_append, frzL, frzL_app i xs a b]
section
variable {P : Program} {N κ : Nat} {T : Tm} {H : List Blk}
/-- Own row i becomes immutable; own cells j refer to it. -/
theorem To.frzC (i j : Nat) {xs : List PV} {vs cs : List V} {e : TypeId} (hij : i ≠ j) (hc : blkCells H[i]? = some vs) (hp : allP vs = some xs) (hH : H[j]? = some (.cells cs e)) : To P κ N T H (frzT i xs T) ((H.set i .dead).set j (.cells (frzL i xs cs) e)) := by
  intro w I ρ tmps hi ht
  rw [allP_some hp] at hc
  obtain ⟨b, arr, e', hρ, hw, hl, hr⟩ := own_cells hi hc
  obtain ⟨bj, hbj⟩ : ∃ b, ρ[j]? = some b := by
    have h1 : j < H.length := (List.getElem?_eq_some_iff.1 hH).1
    rw [← hi.len] at h1
    exact ⟨ρ[j], List.getElem?_eq_getElem h1⟩
  have hH2 : ∃ blk, H[i]? = some blk ∧ blk.live = true := by
    unfold blkCells at hc
    split at hc
    · rename_i h; exact ⟨_, h, rfl⟩
    · rename_i h; exact ⟨_, h, rfl⟩
    · cases hc
  obtain ⟨blk, hHi, hlive⟩ := hH2
  have hE := Ext.freeze hi hρ hHi hlive (fun _ _ _ h => by rw [hw] at h; cases h; exact .inl rfl)
  have hF := Inv.freeze hi hρ hHi hlive
  have hx : RelAt w (fun k => I k ∨ k = b) xs b 0 := by
    have h2 := RelVL.pure.1 (RelVL.ext hE hr)
    refine RelAt.of_list xs _ 0 h2 fun j u hj => ?_
    rw [List.getElem?_take] at hj
    split at hj
    · simp only [World.cell?, hw]
      simpa using hj
    · cases hj
  have hHj : (H.set i Blk.dead)[j]? = some (.cells cs e) := by rw [List.getElem?_set_ne hij]; exact hH
  refine ⟨_, ρ, hE.w, ?_, ⟨ht.size, fun s v hv => ?_⟩, fun L hL _ => hL⟩
  · refine hF.write hbj hHj rfl (Ext.refl _ _ _) rfl (fun _ _ => rfl) ?_
    obtain ⟨arr2, h1, h3⟩ := hF.rel j bj _ hbj hHj
    exact ⟨arr2, h1, frzL_rel hρ (.inr rfl) hx cs _ h3⟩
  · rw [lk_frzT, Option.map_eq_some_iff] at hv
    obtain ⟨v0, h1, rfl⟩ := hv
    exact frzV_rel hρ (.inr rfl) hx v0 _ ((ht.at_ s v0 h1).ext hE)
theorem map_wkV : ∀ l : List PV, (l.map V.p).map wkV = (wkPL l).map V.p
  | [] => rfl
  | x :: l => by simp only [List.map_cons, wkPL, map_wkV l]; rfl
/-- A slice that grew in a cell of own block j is from now on content. -/
theorem To.accC (i j : Nat) {xs : List PV} {n : Nat} {a b : List PV} {e eb : TypeId} (T2 : Tm) (hij : i ≠ j) (hi : H[i]? = some (accB (xs.map .p) e n)) (hj : H[j]? = some (.cells (a.map .p ++ accV i n :: b.map .p) eb)) (h0 : n = 0 → xs = []) (ha : wkPL a = a) (hb : wkPL b = b)
    (h1 : Sub T2 (frzT i xs T)) (h2 : Sub T2 T) : To P κ N T H T2 ((H.set i .dead).set j (.cells (a.map .p ++ .p (.is xs n) :: b.map .p) eb)) := by
  cases n with
  | zero =>
    have hx := h0 rfl
    subst hx
    have e1 : H.set i .dead = H := by
      apply List.ext_getElem?
      intro k
      rw [List.getElem?_set]
      split
      · rename_i hik
        subst hik
        split
        · exact hi.symm
        · rename_i h; rw [List.getElem?_eq_none (by omega)]
      · rfl
    rw [e1]
    have h3 := To.wkB (P := P) (N := N) (κ := κ) (T := T) j hj
    have e2 : (a.map V.p ++ accV i 0 :: b.map V.p).map wkV = a.map .p ++ .p (.is [] 0) :: b.map .p := by
      rw [List.map_append, List.map_cons, map_wkV, map_wkV, ha, hb]
      rfl
    rw [e2] at h3
    exact h3.trans (To.sub h2)
  | succ n =>
    have h3 := To.frzC (P := P) (N := N) (κ := κ) (T := T) i j hij (xs := xs) (vs := xs.map .p) (by rw [hi]; rfl) (allP_map xs) hj
    have e2 : frzL i xs (a.map V.p ++ accV i (n + 1) :: b.map V.p) = a.map .p ++ .p (.is xs (n + 1)) :: b.map .p := by
      rw [frzL_app, frzL_pure]
      simp only [frzL, frzL_pure, accV, frzV, if_true]
    rw [e2] at h3
    exact h3.trans (To.sub h1)
end
end Go.AF
end

section
set_option linter.unusedVariables false
namespace Go.AF
section
variable {P : Program} {N : Nat} {T : Tm} {H : List Blk} {o : Oper}
end
end Go.AF
end

section
set_option linter.unusedVariables false
namespace Go.AF
theorem To.eqH {P : Program} {N κ : Nat} {T T2 : Tm} {H H2 H3 : List Blk} (h : To P κ N T H T2 H2) (e : H2 = H3) : To P κ N T H T2 H3 := e ▸ h
section
variable {P : Program} {N : Nat} {T : Tm} {H : List Blk} {o : Oper}
end
end Go.AF
end

section
set_option linter.unusedVariables false
namespace Go.AF
theorem alen_acc (i : Nat) : ∀ n, alen (accV i n) = some n
  | 0 => rfl
  | n + 1 => rfl
section
variable {P : Program} {N κ : Nat} {T : Tm} {H : List Blk} {o : Oper}
theorem OpJ.indexAcc {x y : Operand} {t : TypeId} {kd : IntKind} {sz i n k : Nat} (ho : o.op = .indexAddr t x y) (hx : ev T x = some (accV i n)) (hy : ev T y = some (.p (.int kd (k : Int)))) (ht : isSl P t = true) (he : elI P t = some sz) (hk : k < n) : OpJ P N o T H (.ptr i (k * sz)) H :=
  OpJ.indexRow ho (by rw [hx, accV_pos (by omega)]) hy ht he hk
theorem OpJ.storeAcc {α : Type} {f : α → List PV} {c k j n m i off : Nat} {b : Bool} {xs : List α} {z : α} {ws : List PV} {e : TypeId} {x y : Operand} {t : TypeId} {v : V} (ho : o.op = .store t x y) (hx : ev T x = some (.ptr i off)) (hy : ev T y = some v) (hk : cellsOk v = true) (h1 : (cellsV v).all oneV = true)
    (ht : tyI P t = some (b, n)) (hn : (cellsV v).length = n) (hv : cellsV v = ws.map .p) (hH : H[i]? = some (accB ((xs.flatMap f).map .p) e m)) (hm : 0 < m) (hoff : off = k * c + j) (hf : ∀ x, (f x).length = c) (hkx : k < xs.length) (hj : j + ws.length ≤ c)
    (hz : f z = (f xs[k]).take j ++ ws ++ (f xs[k]).drop (j + ws.length)) : OpJ P N o T H .top (H.set i (accB (((xs.set k z).flatMap f).map .p) e m)) := by
  rw [accB_pos hm] at hH ⊢
  exact OpJ.storeRow ho hx hy hk h1 ht hn hv hH hoff hf hkx hj hz
end
end Go.AF
end

section
set_option linter.unusedVariables false
namespace Go.AF
section
variable {P : Program} {N : Nat} {T : Tm} {H : List Blk} {o : Oper}
end
end Go.AF
end

section
set_option linter.unusedVariables false
namespace Go.AF
open Go
theorem relAt_ints {w : World} {I : Nat → Prop} (k : IntKind) (b : Nat) : ∀ (ns : List Int) (o : Nat), (∀ i n, ns[i]? = some n → w.cell? ⟨b, o + i, none⟩ = some (.int k n)) → RelAt w I (ns.map (PV.int k)) b o
  | [], o, _ => trivial
  | n :: ns, o, h => ⟨⟨.int k n, h 0 n rfl, rfl⟩, relAt_ints k b ns (o + 1) fun i m hm => by
    have := h (i + 1) m (by simpa using hm)
    rwa [show o + 1 + i = o + (i + 1) by omega]⟩
/-- What a listed package variable, an array of integers, is known to be. -/
theorem laid_var {P : Program} {W : World} {nm : String} {g t e n : Nat} {k : IntKind} {ns : List Int} {d : DataW Unit} {rest : List (String × DataW Unit)} {ps : List MemPlace} (hd : d = .agg (ns.map fun n => .lit (.int k n))) (hg : P.globalNamed nm = some g) (ht : (P.globals[g]?).map (·.type) = some t)
    (hu : P.underlying t = some (.array n e)) (hue : P.underlying e = some (.int k)) (hc : P.cellsOf e = 1) (hct : P.cellsOf t = n) (hn : ns.length = n) (h0 : 0 < n) (h : DataW.LaidVars P W ((nm, d) :: rest) ps) :
    (g < W.heap.size ∧ RelAt W (fun b => b < W.heap.size) (ns.map (PV.int k)) g 0 ∧ ∃ arr e fr, W.heap[g]? = some (.cells arr e fr) ∧ arr.size = (ns.map (PV.int k)).length) ∧ ∃ q, DataW.LaidVars P W rest q := by
  obtain ⟨g0, t0, cs0, f0, p0, q0, hg0, ht0, hv0, hd0, hr, _⟩ := h
  obtain rfl := Option.some.inj (hg.symm.trans hg0)
  obtain rfl := Option.some.inj (ht.symm.trans ht0)
  obtain ⟨xs, m1, rfl, hx1, hlen, hxn, hel⟩ := DataW.trod_array hu hd0
  simp only [Prod.mk.injEq] at hx1
  have hx2 := hx1.1
  rw [hd] at hx2
  have hx3 : (ns.map fun n => DataW.lit (.int k n)) = xs.map (·.1) := by injection hx2
  have key : ∀ i m, ns[i]? = some m → W.cell? ⟨g, 0 + i, none⟩ = some (.int k m) := fun i m hm => by
    have hi : i < n := by rw [← hn]; exact (List.getElem?_eq_some_iff.1 hm).1
    have h1 := hel i hi
    obtain ⟨y, hy⟩ : ∃ y, xs[i]? = some y := ⟨xs[i]'(by rw [hxn]; exact hi), List.getElem?_eq_getElem _⟩
    rw [hy, hc, Nat.mul_one] at h1
    obtain ⟨r, e1, e2, _⟩ := DataW.trod_int hue h1
    have e3 : (xs.map (·.1))[i]? = some y.1 := by rw [List.getElem?_map, hy]; rfl
    rw [← hx3, List.getElem?_map, hm] at e3
    simp only [Option.map_some, Option.some.injEq] at e3
    rw [e2] at e3
    have e4 : m = r := by simpa using e3
    subst e4
    rw [Nat.zero_add, World.var?_cell hg hv0 i]
    have e5 : (cs0.toList.drop i)[0]? = some (.int k m) := by
      have : ((cs0.toList.drop i).take 1)[0]? = some (.int k m) := by rw [e1]; rfl
      rwa [List.getElem?_take_of_lt (by omega)] at this
    rw [List.getElem?_drop, Nat.add_zero] at e5
    simpa using e5
  have hcell : ∃ e fr, W.heap[g]? = some (.cells cs0 e fr) := by
    unfold World.var? at hv0
    rw [hg] at hv0
    simp only [Option.bind_some] at hv0
    split at hv0
    · rename_i cs e fr hh
      cases hv0
      exact ⟨e, fr, hh⟩
    · cases hv0
  obtain ⟨e1, fr, hh⟩ := hcell
  refine ⟨⟨(Array.getElem?_eq_some_iff.1 hh).1, relAt_ints k g ns 0 key, cs0, e1, fr, hh, ?_⟩, q0, hr⟩
  rw [List.length_map, hn, ← hct, ← hlen, Array.length_toList]
end Go.AF
end

section
set_option linter.unusedVariables false
namespace Go.AF
open Go
def putK : List Blk → List Nat → List Blk → List Blk
  | H, k :: ks, x :: xs => putK (H.set k x) ks xs
  | H, _, _ => H
theorem putK_length : ∀ (ks : List Nat) (xs : List Blk) (H : List Blk), (putK H ks xs).length = H.length
  | [], xs, H => by cases xs <;> rfl
  | k :: ks, [], H => rfl
  | k :: ks, x :: xs, H => by rw [putK, putK_length ks xs, List.length_set]
theorem putK_get : ∀ (ks : List Nat) (xs : List Blk) (H : List Blk) (i : Nat) (blk : Blk), ks.Nodup → xs.length = ks.length → (putK H ks xs)[i]? = some blk → (∃ j : Nat, ks[j]? = some i ∧ xs[j]? = some blk) ∨ (i ∉ ks ∧ H[i]? = some blk)
  | [], xs, H, i, blk, _, _, h => by
    have : putK H [] xs = H := by cases xs <;> rfl
    rw [this] at h
    exact .inr ⟨by simp, h⟩
  | k :: ks, [], H, i, blk, _, hl, h => by simp at hl
  | k :: ks, x :: xs, H, i, blk, hn, hl, h => by
    rw [List.nodup_cons] at hn
    rw [putK] at h
    rcases putK_get ks xs _ i blk hn.2 (by simpa using hl) h with ⟨j, h1, h2⟩ | ⟨h1, h2⟩
    · exact .inl ⟨j + 1, by simpa using h1, by simpa using h2⟩
    · by_cases e : k = i
      · subst e
        rw [List.getElem?_set] at h2
        simp only [if_true] at h2
        split at h2
        · exact .inl ⟨0, rfl, h2⟩
        · cases h2
      · rw [List.getElem?_set_ne e] at h2
        exact .inr ⟨by simp [h1, Ne.symm e], h2⟩
section
variable {P : Program} {R : Option Nat} {N κ : Nat} {Q : Post} {T : Tm} {H : List Blk} {o : Oper}
end
end Go.AF
end

section
set_option linter.unusedVariables false
set_option linter.unusedSimpArgs false
set_option linter.unnecessarySimpa false
namespace Go.AF
open Go
def below (n i : Nat) : Option Nat := if Nat.blt i n then some i else none
/-- Blocks that refer to no places but their own ones. -/
def wfH (P : Program) (h : List Blk) : Prop := ∀ blk ∈ h, ∀ (w : World) (I : Nat → Prop) (ρ : List Nat) (b : Nat), RelB P w I ρ blk b → RelB P w I (ρ.take h.length) blk b
section
variable {P : Program} {w w2 : World} {I I2 : Nat → Prop} {ρ ρ2 : List Nat}
theorem take_get {l : List Nat} {n i b : Nat} (hi : i < n) (h : l[i]? = some b) : (l.take n)[i]? = some b := by rw [List.getElem?_take_of_lt hi]; exact h
mutual
theorem RelV.takeN : ∀ (v : V) (u u2 : Value), RelV P w I ρ v u → RelV P w2 I2 ρ2 v u2 → RelV P w2 I2 (ρ2.take ρ.length) v u2
  | .p x, u, u2, h, h2 => h2
  | .ptr i off, u, u2, h, h2 => by
    obtain ⟨b, h1, _⟩ := h
    obtain ⟨b2, h3, h4⟩ := h2
    exact ⟨b2, take_get (List.getElem?_eq_some_iff.1 h1).1 h3, h4⟩
  | .row i len, u, u2, h, h2 => by
    obtain ⟨b, e, cap, h1, _⟩ := h
    obtain ⟨b2, e2, cap2, h3, h4⟩ := h2
    exact ⟨b2, e2, cap2, take_get (List.getElem?_eq_some_iff.1 h1).1 h3, h4⟩
  | .sl i off len, u, u2, h, h2 => by
    obtain ⟨b, cap, h1, _⟩ := h
    obtain ⟨b2, cap2, h3, h4⟩ := h2
    exact ⟨b2, cap2, take_get (List.getElem?_eq_some_iff.1 h1).1 h3, h4⟩
  | .map i, u, u2, h, h2 => by
    obtain ⟨b, h1, _⟩ := h
    obtain ⟨b2, h3, h4⟩ := h2
    exact ⟨b2, take_get (List.getElem?_eq_some_iff.1 h1).1 h3, h4⟩
  | .func fn fi ca, u, u2, h, h2 => by
    obtain ⟨us, vs, _, h1, h3⟩ := h
    obtain ⟨us2, vs2, hu, k1, k3⟩ := h2
    exact ⟨us2, vs2, hu, RelVL.takeN fi _ _ h1 k1, RelVL.takeN ca _ _ h3 k3⟩
  | .iface t v, u, u2, h, h2 => by
    obtain ⟨x, _, h1⟩ := h
    obtain ⟨x2, hu, k1⟩ := h2
    exact ⟨x2, hu, RelV.takeN v _ _ h1 k1⟩
  | .agg cs, u, u2, h, h2 => by
    obtain ⟨us, _, h1⟩ := h
    obtain ⟨us2, hu, k1⟩ := h2
    exact ⟨us2, hu, RelVL.takeN cs _ _ h1 k1⟩
  | .tuple cs, u, u2, h, h2 => by
    obtain ⟨us, _, h1⟩ := h
    obtain ⟨us2, hu, k1⟩ := h2
    exact ⟨us2, hu, RelVL.takeN cs _ _ h1 k1⟩
  | .opt g v, u, u2, h, h2 => ⟨fun hg => RelV.takeN v u u2 (h.1 hg) (h2.1 hg), h2.2⟩
  | .raw _ _ _, u, u2, h, h2 => h2
  | .z0, u, u2, h, h2 => h2
  | .top, u, u2, h, h2 => trivial
theorem RelVL.takeN : ∀ (vs : List V) (us us2 : List Value), RelVL P w I ρ vs us → RelVL P w2 I2 ρ2 vs us2 → RelVL P w2 I2 (ρ2.take ρ.length) vs us2
  | [], us, us2, h, h2 => h2
  | v :: vs, us, us2, h, h2 => by
    obtain ⟨u, us', _, h1, h3⟩ := h
    obtain ⟨u2, us2', hu, k1, k3⟩ := h2
    exact ⟨u2, us2', hu, RelV.takeN v u u2 h1 k1, RelVL.takeN vs us' us2' h3 k3⟩
end
theorem RelB.takeN {x : Blk} {b b2 : Nat} (h : RelB P w I ρ x b) (h2 : RelB P w2 I2 ρ2 x b2) : RelB P w2 I2 (ρ2.take ρ.length) x b2 := by
  cases x with
  | cells cs e =>
    obtain ⟨arr, _, h1⟩ := h
    obtain ⟨arr2, k0, k1⟩ := h2
    exact ⟨arr2, k0, RelVL.takeN cs _ _ h1 k1⟩
  | row cs e =>
    obtain ⟨arr, _, _, h1⟩ := h
    obtain ⟨arr2, k0, k1, k2⟩ := h2
    exact ⟨arr2, k0, k1, RelVL.takeN cs _ _ h1 k2⟩
  | rowF cs e =>
    obtain ⟨arr, m, _, _, _, h1⟩ := h
    obtain ⟨arr2, m2, k0, k00, k1, k2⟩ := h2
    exact ⟨arr2, m2, k0, k00, k1, RelVL.takeN cs _ _ h1 k2⟩
  | map ks vs =>
    obtain ⟨es, clock, _, h1, h3, _⟩ := h
    obtain ⟨es2, clock2, k0, k1, k3, k4⟩ := h2
    exact ⟨es2, clock2, k0, RelVL.takeN ks _ _ h1 k1, RelVL.takeN vs _ _ h3 k3, k4⟩
  | strIter s pos => exact h2
  | mapIter ks vs last => exact h2
  | loop r st pe =>
    obtain ⟨_, _, h3⟩ := h
    obtain ⟨k0, k1, k3⟩ := h2
    exact ⟨k0, k1, fun s v hv => RelV.takeN v _ _ (h3 s v hv) (k3 s v hv)⟩
  | dead => trivial
theorem wfH_of {h : List Blk} (hi : Inv P w I ρ h) : wfH P h := by
  intro blk hm w' I' ρ' b' hrel
  obtain ⟨i, hlt, rfl⟩ := List.getElem_of_mem hm
  have hlt2 : i < ρ.length := by rw [hi.len]; exact hlt
  have := RelB.takeN (hi.rel i ρ[i] h[i] (List.getElem?_eq_getElem hlt2) (List.getElem?_eq_getElem hlt)) hrel
  rwa [hi.len] at this
end
section
variable {P : Program} {R : Option Nat} {N : Nat} {Q Q' : Post} {T T' T2 T3 : Tm} {H H' H2 H3 : List Blk} {o : Oper} {ops : Array Oper} {rest : List Oper}
end
end Go.AF
end

section
set_option linter.unusedVariables false
namespace Go.AF
section
variable {P : Program} {R : Option Nat} {N κ : Nat} {Q : Post} {T : Tm} {H H2 : List Blk} {o : Oper}
end
end Go.AF
end

section
set_option linter.unusedVariables false
set_option linter.unusedSimpArgs false
namespace Go.AF
section
variable {P : Program} {R : Option Nat} {N κ : Nat} {Q : Post} {T : Tm} {H H2 : List Blk} {o : Oper}
section
variable {K α : Type} {enc : K → PV} {gp : α → PV}
end
end
end Go.AF
end

section
set_option linter.unusedVariables false
set_option linter.unusedSimpArgs false
set_option linter.unnecessarySimpa false
namespace Go.AF
open Go
section
variable {P : Program} {R : Option Nat} {N κ : Nat} {Q Q' : Post} {T T' T2 T3 : Tm} {H H' H2 H3 : List Blk} {o : Oper} {ops : Array Oper} {rest : List Oper}
end
end Go.AF
end

section
set_option linter.unusedVariables false
set_option linter.unusedSimpArgs false
set_option linter.unnecessarySimpa false
namespace Go.AF
open Go
theorem lk_mem : ∀ {T : Tm} {s : Nat} {v : V}, lk T s = some v → (s, v) ∈ T
  | [], s, v, h => by cases h
  | (a, u) :: T, s, v, h => by
    simp only [lk] at h
    cases hb : Nat.beq a s with
    | true =>
      rw [hb] at h
      cases h
      obtain rfl := Nat.eq_of_beq_eq_true hb
      exact List.mem_cons_self
    | false =>
      rw [hb] at h
      exact List.mem_cons_of_mem _ (lk_mem h)
/-- Content, or a pointer to an early own block. -/
def lowOk (n : Nat) : V → Prop
  | .p _ => True
  | .ptr j _ => j < n
  | _ => False
theorem lowOk.ren {n : Nat} : ∀ {v : V}, lowOk n v → renV (below n) v = v
  | .p _, _ => rfl
  | .ptr j _, h => by
    have e : below n j = some j := by unfold below; rw [if_pos (by simpa [Nat.blt, Nat.lt_iff_add_one_le, lowOk] using h)]
    simp only [renV, e]
  | .row _ _, h => h.elim
  | .sl _ _ _, h => h.elim
  | .map _, h => h.elim
  | .func _ _ _, h => h.elim
  | .iface _ _, h => h.elim
  | .agg _, h => h.elim
  | .tuple _, h => h.elim
  | .opt _ _, h => h.elim
  | .raw _ _ _, h => h.elim
  | .z0, h => h.elim
  | .top, h => h.elim
theorem lowOk.frz {n : Nat} {xs : List PV} : ∀ {v : V}, lowOk n v → frzV n xs v = v
  | .p _, _ => rfl
  | .ptr j _, h => by
    have h' : j < n := h
    simp only [frzV]
    rw [if_neg (by omega)]
  | .row _ _, h => h.elim
  | .sl _ _ _, h => h.elim
  | .map _, h => h.elim
  | .func _ _ _, h => h.elim
  | .iface _ _, h => h.elim
  | .agg _, h => h.elim
  | .tuple _, h => h.elim
  | .opt _ _, h => h.elim
  | .raw _ _ _, h => h.elim
  | .z0, h => h.elim
  | .top, h => h.elim
def lowS (n : Nat) (T : Tm) : Tm → Prop
  | [] => True
  | (s, v) :: r => lk T s = some v ∧ lowOk n v ∧ lowS n T r
theorem lowS.mem {n : Nat} {T : Tm} : ∀ {T2 : Tm}, lowS n T T2 → ∀ s v, (s, v) ∈ T2 → lk T s = some v ∧ lowOk n v
  | [], _, s, v, h => by cases h
  | (a, u) :: r, h, s, v, hm => by
    obtain ⟨h1, h2, h3⟩ := h
    rcases List.mem_cons.1 hm with e | hm
    · cases e; exact ⟨h1, h2⟩
    · exact lowS.mem h3 s v hm
section
variable {P : Program} {R : Option Nat} {N κ : Nat} {Q Q' : Post} {T T' T2 T3 : Tm} {H H' H2 H3 : List Blk} {o : Oper} {ops : Array Oper} {rest : List Oper}
theorem AWp.of_wf {c : Code} (h : wfH P H → AWp P R N κ c Q T H) : AWp P R N κ c Q T H := fun B w I ρ a hi ht hm => h (wfH_of hi) B w I ρ a hi ht hm
/-- The last blocks may be forgotten; what refers to early ones stays. -/
theorem To.popT {ext : List Blk} (hw : wfH P H) (hκ : κ ≤ H.length) (hT : ∀ s v, lk T2 s = some v → lk T s = some v ∧ lowOk H.length v) : To P κ N T (H ++ ext) T2 H := by
  intro w I ρ tmps hi ht
  have hρ : ρ.length = H.length + ext.length := by rw [hi.len, List.length_append]
  have t1 : ∀ (i b : Nat), (ρ.take H.length)[i]? = some b → i < H.length ∧ ρ[i]? = some b := fun i b e => by
    have hlt : i < H.length := by
      have := (List.getElem?_eq_some_iff.1 e).1
      rw [List.length_take] at this
      omega
    rw [List.getElem?_take_of_lt hlt] at e
    exact ⟨hlt, e⟩
  have t2 : ∀ (i : Nat) (blk : Blk), H[i]? = some blk → (H ++ ext)[i]? = some blk := fun i blk e => by
    rw [List.getElem?_append_left (List.getElem?_eq_some_iff.1 e).1]
    exact e
  refine ⟨I, ρ.take H.length, ?_, ?_, ⟨ht.size, fun s v hv => ?_⟩, fun B hB hκ2 => ?_⟩
  · have h0 := ExtW.refl w I ρ
    exact ⟨h0.os, h0.tape, h0.output, h0.size, h0.keep, h0.shape, h0.imm, h0.immKeep, h0.immNew, h0.nf, h0.defKeep, h0.defI, fun b hb => .inl (List.mem_of_mem_take hb)⟩
  · refine ⟨by rw [List.length_take]; omega, fun i b blk h1 h2 h3 => hi.bnd i b blk (t1 i b h1).2 (t2 i blk h2) h3, hi.ib, fun i b blk h1 h2 h3 => hi.live i b blk (t1 i b h1).2 (t2 i blk h2) h3, fun i j b x y h1 h2 h3 h4 h5 h6 => hi.dist i j b x y (t1 i b h1).2 (t1 j b h2).2 (t2 i x h3) (t2 j y h4) h5 h6, fun i b blk h1 h2 => ?_, hi.gl⟩
    exact hw blk (List.mem_of_getElem? h2) w I ρ b (hi.rel i b blk (t1 i b h1).2 (t2 i blk h2))
  · obtain ⟨h1, h2⟩ := hT s v hv
    have h3 := ht.at_ s v h1
    have h4 := renV_rel (σ := below H.length) (ρ2 := ρ.take H.length) (fun i j b g1 g2 => by
      unfold below at g1
      split at g1
      · rename_i g3
        cases g1
        exact take_get (by simpa [Nat.blt, Nat.lt_iff_add_one_le] using g3) g2
      · cases g1) v _ h3
    rwa [h2.ren] at h4
  · obtain ⟨t, rfl⟩ := hB
    have : B.length ≤ H.length := by omega
    rw [List.take_append, List.take_of_length_le this]
    exact List.prefix_append _ _
/-- The last block becomes content, and is forgotten as a place. -/
theorem To.frzPop {h : List Blk} {xs : List PV} {vs : List V} {e : TypeId} {s : Nat} (hw : wfH P h) (hκ : κ ≤ h.length) (hs : lk T s = some (.ptr h.length 0)) (hv : allP vs = some xs) (hT : lowS h.length T T2) : To P κ N T (h ++ [.cells vs e]) ((s, .p (.ip xs 0)) :: T2) h := by
  have hat : blkCells (h ++ [Blk.cells vs e])[h.length]? = some vs := by simp [blkCells]
  have h1 := To.freeze (P := P) (κ := κ) (N := N) (T := T) (H := h ++ [.cells vs e]) h.length hat hv
  rw [set_last] at h1
  refine h1.trans (To.popT hw hκ fun s' v hv' => ?_)
  simp only [lk] at hv'
  rw [lk_frzT]
  cases hb : Nat.beq s s' with
  | true =>
    rw [hb] at hv'
    obtain rfl := Nat.eq_of_beq_eq_true hb
    cases hv'
    rw [hs]
    refine ⟨?_, trivial⟩
    simp [frzV]
  | false =>
    rw [hb] at hv'
    obtain ⟨h2, h3⟩ := hT.mem s' v (lk_mem hv')
    rw [h2]
    exact ⟨congrArg some h3.frz, h3⟩
theorem setAt_all : ∀ (vs zs pre : List V), zs.length = vs.length → setAt (pre ++ zs) pre.length vs = pre ++ vs
  | [], zs, pre, h => by
    obtain rfl : zs = [] := List.eq_nil_of_length_eq_zero (by simpa using h)
    rfl
  | v :: vs, [], pre, h => by simp at h
  | v :: vs, z :: zs, pre, h => by
    have ih := setAt_all vs zs (pre ++ [v]) (by simpa using h)
    simp only [setAt]
    have e : (pre ++ z :: zs).set pre.length v = (pre ++ [v]) ++ zs := by simp
    rw [e]
    have e2 : pre.length + 1 = (pre ++ [v]).length := by simp
    rw [e2, ih]
    simp
theorem astore_last {h : List Blk} {zs vs : List V} {e : TypeId} (hl : zs.length = vs.length) : astore (h ++ [.cells zs e]) h.length 0 vs = some (h ++ [.cells vs e]) := by
  unfold astore
  have : (h ++ [Blk.cells zs e])[h.length]? = some (.cells zs e) := by simp
  rw [this]
  simp only [hl, Nat.zero_add, Nat.le_refl, if_true]
  rw [set_last]
  have := setAt_all vs zs [] hl
  simp only [List.nil_append, List.length_nil] at this
  rw [this]
end
end Go.AF
end

section
set_option linter.unusedVariables false
set_option linter.unusedSimpArgs false
set_option linter.unnecessarySimpa false
namespace Go.AF
open Go
section
variable {P : Program} {R : Option Nat} {N κ : Nat} {Q Q' : Post} {T T' T2 T3 : Tm} {H H' H2 H3 : List Blk} {o : Oper} {ops : Array Oper} {rest : List Oper}
end
end Go.AF
end

section
set_option linter.unusedVariables false
set_option linter.unusedSimpArgs false
namespace Go.AF
open Go
def accP (xs : List PV) : Nat → PV
  | 0 => .nilSlice
  | n + 1 => .is xs (n + 1)
section
variable {P : Program} {w : World} {I : Nat → Prop} {ρ : List Nat}
theorem relNil : ∀ (a r : List PV) (us : List Value), RelVL P w I ρ ((a ++ .nilSlice :: r).map .p) us → RelVL P w I ρ ((a ++ .is [] 0 :: r).map .p) us
  | [], r, us, h => by
    obtain ⟨u, us', rfl, h1, h2⟩ := h
    have h1' : u = .slice none 0 0 := h1
    exact ⟨u, us', rfl, .inl ⟨⟨none, 0, h1'⟩, rfl⟩, h2⟩
  | x :: a, r, us, h => by
    obtain ⟨u, us', rfl, h1, h2⟩ := h
    exact ⟨u, us', rfl, h1, relNil a r us' h2⟩
end
/-- What holds for a list holds for the slice that grew to it. -/
theorem Pure.acc {P : Program} {f : FuncId} (a : List PV) {r : List PV} {xs : List PV} {n : Nat} {v : PV} (h0 : n = 0 → xs = []) (h : Pure P f (a ++ .is xs n :: r) v) : Pure P f (a ++ accP xs n :: r) v := by
  cases n with
  | zero =>
    rw [h0 rfl] at h
    intro w I ρ us hi hus
    exact h w I ρ us hi (relNil a r us hus)
  | succ n => exact h
end Go.AF
end
