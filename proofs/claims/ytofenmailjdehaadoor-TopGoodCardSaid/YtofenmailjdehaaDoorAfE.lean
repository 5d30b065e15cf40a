/-
  Regions that draw their order, in which own blocks are laid and written. No condition; generic over any program.
-/
import Derived.Test.YtofenmailjdehaaDoorAfD
set_option linter.unusedVariables false
set_option linter.unusedSimpArgs false
set_option linter.unusedSectionVars false
set_option linter.unnecessarySimpa false
namespace Go.AF

/-- Places that are named: those of old, and some new ones. -/
def sg (n0 : Nat) (ms : List Nat) (i : Nat) : Option Nat := bif Nat.blt i n0 || ms.elem i then some i else none
/-- Place k takes what was laid last. -/
def sw (k n : Nat) (i : Nat) : Option Nat := bif Nat.beq i n then some k else bif Nat.beq i k then none else some i
/-- Own blocks, some of which are not known. -/
def mask (g : Nat → Blk) (S : List Nat) : Nat → List Blk → List Blk
  | _, [] => []
  | i, x :: H => (bif S.elem i then g i else x) :: mask g S (i + 1) H
def difL (S us : List Nat) : List Nat := S.filter fun i => !us.elem i
def intL (us L : List Nat) : List Nat := us.filter fun i => L.elem i
def deads : Nat → List Blk
  | 0 => []
  | r + 1 => .dead :: deads r
def app : List (Nat × Blk) → List Blk → List Blk
  | [], H => H
  | (k, b) :: w, H => app w (H.set k b)

theorem mask_get (g : Nat → Blk) (S : List Nat) : ∀ (H : List Blk) (i k : Nat), (mask g S i H)[k]? = if S.elem (i + k) then (H[k]?).map (fun _ => g (i + k)) else H[k]?
  | [], i, k => by simp [mask]
  | x :: H, i, 0 => by
    simp only [mask, List.getElem?_cons_zero, Nat.add_zero, Option.map_some]
    cases S.elem i <;> rfl
  | x :: H, i, k + 1 => by
    simp only [mask, List.getElem?_cons_succ]
    rw [mask_get g S H (i + 1) k, show i + 1 + k = i + (k + 1) by omega]
theorem mask_len (g : Nat → Blk) (S : List Nat) : ∀ (H : List Blk) (i : Nat), (mask g S i H).length = H.length
  | [], i => rfl
  | x :: H, i => by simp [mask, mask_len g S H (i + 1)]
theorem app_len : ∀ (w : List (Nat × Blk)) (H : List Blk), (app w H).length = H.length
  | [], H => rfl
  | (k, b) :: w, H => by simp [app, app_len w]
theorem app_ne {k : Nat} : ∀ {w : List (Nat × Blk)} {H : List Blk}, (∀ b, (k, b) ∉ w) → (app w H)[k]? = H[k]?
  | [], H, h => rfl
  | (j, b) :: w, H, h => by
    have : j ≠ k := fun e => h b (by rw [e]; simp)
    simp only [app]
    rw [app_ne (fun c hc => h c (by simp [hc])), List.getElem?_set, if_neg this]
theorem app_congr {k : Nat} : ∀ {w : List (Nat × Blk)} {H H' : List Blk}, H.length = H'.length → H[k]? = H'[k]? → (app w H)[k]? = (app w H')[k]?
  | [], H, H', hl, h => h
  | (j, b) :: w, H, H', hl, h => by
    simp only [app]
    exact app_congr (by simp [hl]) (by simp only [List.getElem?_set, hl, h])
theorem app_set {j : Nat} {b : Blk} : ∀ {w : List (Nat × Blk)} {H : List Blk}, (∀ c, (j, c) ∉ w) → app w (H.set j b) = (app w H).set j b
  | [], H, h => rfl
  | (k, c) :: w, H, h => by
    have hne : j ≠ k := fun e => h c (by rw [e]; simp)
    simp only [app]
    rw [← app_set (fun d hd => h d (by simp [hd])), List.set_comm _ _ hne]
theorem app_comm : ∀ {w1 w2 : List (Nat × Blk)} {H : List Blk}, (∀ k b1 b2, (k, b1) ∈ w1 → (k, b2) ∉ w2) → app w1 (app w2 H) = app w2 (app w1 H)
  | [], w2, H, h => rfl
  | (j, b) :: w1, w2, H, h => by
    simp only [app]
    rw [← app_set (fun c hc => h j b c (by simp) hc)]
    exact app_comm fun k b1 b2 h1 h2 => h k b1 b2 (by simp [h1]) h2
theorem app_app : ∀ (w1 w2 : List (Nat × Blk)) (H : List Blk), app (w1 ++ w2) H = app w2 (app w1 H)
  | [], w2, H => rfl
  | (j, b) :: w1, w2, H => by simp only [List.cons_append, app]; exact app_app w1 w2 _
theorem mem_app : ∀ {w : List (Nat × Blk)} {H : List Blk} {x : Blk}, x ∈ app w H → x ∈ H ∨ ∃ k, (k, x) ∈ w
  | [], H, x, h => .inl h
  | (j, b) :: w, H, x, h => by
    rcases mem_app (w := w) h with h1 | ⟨k, h1⟩
    · rcases List.mem_or_eq_of_mem_set h1 with h2 | rfl
      · exact .inl h2
      · exact .inr ⟨j, by simp⟩
    · exact .inr ⟨k, by simp [h1]⟩

/-- The own blocks, once the operations of f have been carried out. -/
def HH (wrt : Nat → List (Nat × Blk)) (f : Nat → Bool) (H0 : List Blk) : Nat → List Blk
  | 0 => H0
  | j + 1 => bif f j then app (wrt j) (HH wrt f H0 j) else HH wrt f H0 j
section
variable {wrt : Nat → List (Nat × Blk)} {f g : Nat → Bool} {H0 : List Blk}
theorem HH_len : ∀ m, (HH wrt f H0 m).length = H0.length
  | 0 => rfl
  | m + 1 => by
    simp only [HH]
    cases f m
    · exact HH_len m
    · exact (app_len _ _).trans (HH_len m)
theorem HH_get {k i m : Nat} (h1 : ∀ j, j < m → j < i → (∃ b, (k, b) ∈ wrt j) → f j = true) (h2 : ∀ j, j < m → i ≤ j → (∃ b, (k, b) ∈ wrt j) → f j = false) :
    ∀ n, n ≤ m → (HH wrt f H0 n)[k]? = (HH wrt (fun _ => true) H0 (min n i))[k]?
  | 0, _ => by simp [HH]
  | n + 1, hn => by
    have ih := HH_get (i := i) h1 h2 n (by omega)
    by_cases hw : ∃ b, (k, b) ∈ wrt n
    · by_cases hi : n < i
      · rw [show min (n + 1) i = n + 1 by omega]
        rw [show min n i = n by omega] at ih
        simp only [HH, h1 n (by omega) hi hw, cond_true]
        exact app_congr (by rw [HH_len, HH_len]) ih
      · rw [show min (n + 1) i = min n i by omega]
        simp only [HH, h2 n (by omega) (by omega) hw, cond_false]
        exact ih
    · have hne : ∀ b, (k, b) ∉ wrt n := fun b e => hw ⟨b, e⟩
      have e1 : (HH wrt f H0 (n + 1))[k]? = (HH wrt f H0 n)[k]? := by
        simp only [HH]
        cases f n
        · rfl
        · exact app_ne hne
      rw [e1, ih]
      by_cases hi : n < i
      · rw [show min (n + 1) i = n + 1 by omega, show min n i = n by omega]
        simp only [HH, cond_true]
        exact (app_ne hne).symm
      · rw [show min (n + 1) i = min n i by omega]
theorem HH_same {m : Nat} (h : ∀ j, j < m → f j = g j) : ∀ n, n ≤ m → HH wrt f H0 n = HH wrt g H0 n
  | 0, _ => rfl
  | n + 1, hn => by
    simp only [HH, h n (by omega), HH_same h n (by omega)]
theorem HH_upd {i m : Nat} (hi : i < m) (hf : f i = false) (hg : ∀ j, g j = (decide (j = i) || f j)) (hc : ∀ j, i < j → j < m → f j = true → ∀ k b1 b2, (k, b1) ∈ wrt j → (k, b2) ∉ wrt i) :
    ∀ n, n ≤ m → HH wrt g H0 n = if i < n then app (wrt i) (HH wrt f H0 n) else HH wrt f H0 n
  | 0, _ => by simp [HH]
  | n + 1, hn => by
    have ih := HH_upd hi hf hg hc n (by omega)
    by_cases h : n = i
    · subst h
      rw [if_neg (by omega)] at ih
      rw [if_pos (by omega)]
      simp only [HH, hg n, hf, decide_true, Bool.true_or, cond_true, cond_false, ih]
    · by_cases hlt : i < n
      · rw [if_pos hlt] at ih
        rw [if_pos (by omega)]
        have e : g n = f n := by rw [hg]; simp [h]
        simp only [HH, e, ih]
        cases hfn : f n with
        | false => rfl
        | true =>
          simp only [cond_true]
          exact app_comm (hc n hlt (by omega) hfn)
      · rw [if_neg hlt] at ih
        rw [if_neg (by omega)]
        have e : g n = f n := by rw [hg]; simp [h]
        simp only [HH, e, ih]
end

/-- What one operation does. -/
def StG (P : Program) (N : Nat) (ops : Array Oper) (S : List Nat) (n0 : Nat) (o : Oper) (us : List Nat) (wr : Bool) (L L' : List Nat) (T : Tm) (H : List Blk) (v : V) (w : List (Nat × Blk)) : Prop :=
  (wr = false ∧ w = [] ∧ L' = L ∧ renV (sg n0 (intL us L)) v = v ∧ ∀ g, YJ P N ops o T (mask g (difL S us) 0 H) v) ∨
  (wr = true ∧ o.guard = none ∧ L' = L ∧ renV (sg n0 (intL us L)) v = v ∧ ∃ k blk, w = [(k, blk)] ∧ k ∈ us ∧ k ∈ S ∧ renB (sg n0 []) blk = blk ∧ ∀ g, OpJ P N o (restr ops o T) (mask g (difL S us) 0 H) v (mask g (difL S us) 0 (H.set k blk))) ∨
  (wr = true ∧ o.guard = none ∧ ∃ k blk v0 w1, w = w1 ++ [(k, blk)] ∧ (∀ p ∈ w1, p.1 ∈ us ∧ p.1 ∈ S ∧ renB (sg n0 []) p.2 = p.2) ∧ L' = k :: L ∧ k ∈ us ∧ k ∈ S ∧ n0 ≤ k ∧ k ∉ L ∧ renB (sg n0 []) blk = blk ∧ v = renV (sw k H.length) v0 ∧ renV (sg n0 [k]) v = v ∧ k < H.length ∧
    ∀ g, OpJ P N o (restr ops o T) (mask g (difL S us) 0 H) v0 (mask g (difL S us) 0 (app w1 H) ++ [blk]))

/-- One pass in the order of the text. Which own blocks of S an operation uses, and whether it writes, is told ahead. -/
def AQG (P : Program) (N : Nat) (ops : Array Oper) (S : List Nat) (n0 : Nat) (K : Tm → List Blk → Prop) : List Nat → List (List Nat × Bool) → List Oper → Tm → List Blk → Prop
  | _, _, [], T, H => K T H
  | L, D, o :: rest, T, H => ∃ v w L', dstOk N o.dst = true ∧ StG P N ops S n0 o (D.headD ([], false)).1 (D.headD ([], false)).2 L L' T H v w ∧ AQG P N ops S n0 K L' (D.drop 1) rest (setT T o.dst v) (app w H)

section
variable {P : Program} {R : Option Nat} {N κ : Nat} {Q : Post} {T : Tm} {H : List Blk} {o : Oper} {ops : Array Oper} {K : Tm → List Blk → Prop} {rest : List Oper} {S L us : List Nat} {n0 : Nat} {D : List (List Nat × Bool)}
theorem AQG.nil (h : K T H) : AQG P N ops S n0 K L D [] T H := h
theorem AQG.cons (d : Nat) {v : V} (hd : o.dst = some d) (hdN : dstOk N (some d) = true) (hg : o.guard = none) (hop : ∀ g, OpJ P N o (restr ops o T) (mask g (difL S us) 0 H) v (mask g (difL S us) 0 H)) (hv : renV (sg n0 (intL us L)) v = v)
    (next : AQG P N ops S n0 K L D rest ((d, v) :: T) H) : AQG P N ops S n0 K L ((us, false) :: D) (o :: rest) T H :=
  ⟨v, [], L, by rw [hd]; exact hdN, .inl ⟨rfl, rfl, rfl, hv, fun g => .inl ⟨hg, hop g⟩⟩, by rw [hd]; exact next⟩
theorem AQG.guard (d s : Nat) {j : Nat} {want c : Bool} {x v : V} (hd : o.dst = some d) (hdN : dstOk N (some d) = true) (hg : o.guard = some (j, want)) (hs : gslot ops j = some s) (hsN : dstOk N (some s) = true) (hb : lk (restr ops o T) s = some x) (hc : gcond want x = some c)
    (T2 : Tm) (h2 : c = true → subG T2 (restr ops o T)) (hop : c = true → ∀ g, OpJ P N o T2 (mask g (difL S us) 0 H) v (mask g (difL S us) 0 H)) (hv : renV (sg n0 (intL us L)) v = v)
    (next : AQG P N ops S n0 K L D rest ((d, .opt c v) :: T) H) : AQG P N ops S n0 K L ((us, false) :: D) (o :: rest) T H :=
  ⟨.opt c v, [], L, by rw [hd]; exact hdN, .inl ⟨rfl, rfl, rfl, by show V.opt c (renV (sg n0 (intL us L)) v) = _; rw [hv], fun g => .inr ⟨j, want, s, c, x, v, hg, hs, hsN, hb, hc, rfl, fun h => ⟨T2, h2 h, hop h g⟩⟩⟩, by rw [hd]; exact next⟩
theorem AQG.put (k : Nat) {blk : Blk} {v : V} (hd : o.dst = none) (hg : o.guard = none) (hk : us.elem k = true) (hS : S.elem k = true) (hop : ∀ g, OpJ P N o (restr ops o T) (mask g (difL S us) 0 H) v (mask g (difL S us) 0 (H.set k blk))) (hv : renV (sg n0 (intL us L)) v = v) (hb : renB (sg n0 []) blk = blk)
    (next : AQG P N ops S n0 K L D rest T (H.set k blk)) : AQG P N ops S n0 K L ((us, true) :: D) (o :: rest) T H :=
  ⟨v, [(k, blk)], L, by rw [hd]; rfl, .inr (.inl ⟨rfl, hg, rfl, hv, k, blk, rfl, by simpa using hk, by simpa using hS, hb, hop⟩), by rw [hd]; exact next⟩
theorem AQG.lay (d k : Nat) {blk : Blk} {v v0 : V} (hd : o.dst = some d) (hdN : dstOk N (some d) = true) (hg : o.guard = none) (hS : S.elem k = true) (hk : Nat.ble n0 k = true) (hL : L.elem k = false) (hkl : Nat.blt k H.length = true) (hku : us.elem k = true) (hop : ∀ g, OpJ P N o (restr ops o T) (mask g (difL S us) 0 H) v0 (mask g (difL S us) 0 H ++ [blk]))
    (hv0 : renV (sw k H.length) v0 = v) (hv : renV (sg n0 [k]) v = v) (hb : renB (sg n0 []) blk = blk)
    (next : AQG P N ops S n0 K (k :: L) D rest ((d, v) :: T) (H.set k blk)) : AQG P N ops S n0 K L ((us, true) :: D) (o :: rest) T H :=
  ⟨v, [(k, blk)], k :: L, by rw [hd]; exact hdN, .inr (.inr ⟨rfl, hg, k, blk, v0, [], rfl, (fun _ h => by cases h), rfl, by simpa using hku, by simpa using hS, by simpa using hk, (fun h => by rw [show L.elem k = true by simpa using h] at hL; cases hL), hb, hv0.symm, hv, by simpa [Nat.blt, Nat.lt_iff_add_one_le] using hkl, hop⟩), by rw [hd]; exact next⟩

/-- One own block takes the place of another one. -/
theorem AQG.turn (d k k1 : Nat) {blk : Blk} {v v0 : V} (hd : o.dst = some d) (hdN : dstOk N (some d) = true) (hg : o.guard = none) (hS : S.elem k = true) (hS1 : S.elem k1 = true) (hk : Nat.ble n0 k = true) (hL : L.elem k = false) (hkl : Nat.blt k H.length = true) (hku : us.elem k = true) (hku1 : us.elem k1 = true) (hop : ∀ g, OpJ P N o (restr ops o T) (mask g (difL S us) 0 H) v0 (mask g (difL S us) 0 (H.set k1 .dead) ++ [blk]))
    (hv0 : renV (sw k H.length) v0 = v) (hv : renV (sg n0 [k]) v = v) (hb : renB (sg n0 []) blk = blk)
    (next : AQG P N ops S n0 K (k :: L) D rest ((d, v) :: T) ((H.set k1 .dead).set k blk)) : AQG P N ops S n0 K L ((us, true) :: D) (o :: rest) T H :=
  ⟨v, [(k1, .dead), (k, blk)], k :: L, by rw [hd]; exact hdN, .inr (.inr ⟨rfl, hg, k, blk, v0, [(k1, .dead)], rfl, (fun p hp => by simp at hp; subst hp; exact ⟨by simpa using hku1, by simpa using hS1, rfl⟩), rfl, by simpa using hku, by simpa using hS, by simpa using hk, (fun h => by rw [show L.elem k = true by simpa using h] at hL; cases hL), hb, hv0.symm, hv, by simpa [Nat.blt, Nat.lt_iff_add_one_le] using hkl, hop⟩), by rw [hd]; exact next⟩

section
variable {m : Nat} {l : List Oper} {vs : Nat → V}
theorem AQG.vals {ops : Array Oper} : ∀ {l' : List Oper} {L : List Nat} {D : List (List Nat × Bool)} {T : Tm} {H : List Blk}, AQG P N ops S n0 K L D l' T H → ∃ (vs : Nat → V) (Tx : Nat → Tm) (Hx : Nat → List Blk) (wrt : Nat → List (Nat × Blk)) (Ls : Nat → List Nat), Tx 0 = T ∧ Hx 0 = H ∧ Ls 0 = L ∧
    (∀ i o, l'[i]? = some o → dstOk N o.dst = true ∧ StG P N ops S n0 o (D.getD i ([], false)).1 (D.getD i ([], false)).2 (Ls i) (Ls (i + 1)) (Tx i) (Hx i) (vs i) (wrt i) ∧ Tx (i + 1) = setT (Tx i) o.dst (vs i) ∧ Hx (i + 1) = app (wrt i) (Hx i)) ∧ K (Tx l'.length) (Hx l'.length)
  | [], L, D, T, H, h => ⟨fun _ => .top, fun _ => T, fun _ => H, fun _ => [], fun _ => L, rfl, rfl, rfl, fun i o ho => by simp at ho, by unfold AQG at h; exact h⟩
  | o :: l', L, D, T, H, h => by
    obtain ⟨v, w, L', hd, hst, hn⟩ := h
    obtain ⟨vs, Tx, Hx, wrt, Ls, h0, h0', h0'', h1, h2⟩ := AQG.vals hn
    refine ⟨fun i => match i with | 0 => v | i + 1 => vs i, fun i => match i with | 0 => T | i + 1 => Tx i, fun i => match i with | 0 => H | i + 1 => Hx i, fun i => match i with | 0 => w | i + 1 => wrt i, fun i => match i with | 0 => L | i + 1 => Ls i, rfl, rfl, rfl, fun i x hx => ?_, h2⟩
    cases i with
    | zero =>
      simp at hx; subst hx
      refine ⟨hd, ?_, h0, h0'⟩
      have e : D.getD 0 ([], false) = D.headD ([], false) := by cases D <;> rfl
      rw [e]
      show StG P N ops S n0 o _ _ L (Ls 0) T H v w
      rw [h0'']; exact hst
    | succ i =>
      simp at hx
      obtain ⟨k1, k2, k3⟩ := h1 i x hx
      refine ⟨k1, ?_, k3⟩
      have e : D.getD (i + 1) ([], false) = (D.drop 1).getD i ([], false) := by
        simp [List.getD_eq_getElem?_getD, Nat.add_comm]
      rw [e]; exact k2

/-- Of two operations that use the same own block, one of which writes it, the later one is forced behind the earlier one. -/
def drawD (m : Nat) (l : List Oper) (D : List (List Nat × Bool)) : Bool :=
  let t := ancAux [] l
  (List.range m).all fun j => (List.range j).all fun i => !(((D.getD i ([], false)).2 || (D.getD j ([], false)).2) && (D.getD i ([], false)).1.any fun k => (D.getD j ([], false)).1.elem k) || (t.getD j 0).testBit i

theorem drawD_spec {D : List (List Nat × Bool)} (h : drawD m l D = true) (f : Nat → Bool) (hc : ∀ i o, l[i]? = some o → f i = true → ∀ e ∈ o.after, Region.binds .any e = true → f e.on = true) {i j k : Nat} (hij : i < j) (hj : j < m)
    (hw : (D.getD i ([], false)).2 = true ∨ (D.getD j ([], false)).2 = true) (hi : k ∈ (D.getD i ([], false)).1) (hk : k ∈ (D.getD j ([], false)).1) (hf : f j = true) : f i = true := by
  simp only [drawD] at h
  have := List.all_eq_true.1 (List.all_eq_true.1 h j (List.mem_range.2 hj)) i (List.mem_range.2 hij)
  have h1 : ((D.getD i ([], false)).2 || (D.getD j ([], false)).2) = true := by simpa using hw
  have h2 : ((D.getD i ([], false)).1.any fun k => (D.getD j ([], false)).1.elem k) = true := List.any_eq_true.2 ⟨k, hi, by simpa using hk⟩
  rw [h1, h2] at this
  exact ancAux_spec f l [] [] rfl (by simpa using hc) (fun i x h => by simp at h) j i (by simpa using this) hf

theorem mask_set {g : Nat → Blk} {S : List Nat} {H : List Blk} {k : Nat} {b : Blk} (h : k ∉ S) : mask g S 0 (H.set k b) = (mask g S 0 H).set k b := by
  apply List.ext_getElem?
  intro j
  rw [List.getElem?_set (l := mask g S 0 H), mask_get, mask_get, List.getElem?_set, mask_len, Nat.zero_add]
  by_cases hj : k = j
  · subst hj
    simp [h]
  · simp [hj]
theorem mem_difL {S us : List Nat} {k : Nat} : k ∈ difL S us ↔ k ∈ S ∧ k ∉ us := by simp [difL]
theorem sg_id {n0 : Nat} {ms : List Nat} {i j : Nat} (h : sg n0 ms i = some j) : j = i ∧ (i < n0 ∨ i ∈ ms) := by
  unfold sg at h
  cases hb : (Nat.blt i n0 || ms.elem i) with
  | false => rw [hb] at h; cases h
  | true =>
    rw [hb] at h
    cases h
    refine ⟨rfl, ?_⟩
    simp only [Bool.or_eq_true] at hb
    rcases hb with hb | hb
    · exact .inl (by simpa [Nat.blt, Nat.lt_iff_add_one_le] using hb)
    · exact .inr (by simpa using hb)

/-- The state between two operations of a region that draws. -/
def SIG (κ : Nat) (P : Program) (N : Nat) (H : List Blk) (n0 : Nat) (wrt : Nat → List (Nat × Blk)) (m : Nat) (l : List Oper) (T : Tm) (vs : Nat → V) (B : Base) (w0 : World) (I0 : Nat → Prop) (ρ0 : List Nat) (f : Nat → Bool) (a : Act) (w : World) : Prop :=
  ∃ I ρ, ExtW w0 I0 ρ0 w I ρ ∧ Inv P w I ρ (HH wrt f H m) ∧ a.tmps.size = N ∧ (∀ s v, tl l T vs f s = some v → RelV P w I ρ v (a.tmps.getD s undef)) ∧
    (∀ s v, lk T s = some v → (∀ j o, l[j]? = some o → f j = true → o.dst ≠ some s) → RelV P w I (ρ.take n0) v (a.tmps.getD s undef)) ∧ Marks κ B w I ρ a.defers

theorem draw_mainG (hk : DrawOk m l) (hm : m ≤ l.length) {D : List (List Nat × Bool)} (hD : drawD m l D = true) {B : Base} {w0 : World} {I0 : Nat → Prop} {ρ0 : List Nat} {QX : Exit → Act → World → Prop} {Tx : Nat → Tm} {Hx : Nat → List Blk} {wrt : Nat → List (Nat × Blk)} {Ls : Nat → List Nat}
    (h0 : Tx 0 = T) (h0' : Hx 0 = H) (h0'' : Ls 0 = []) (hn0 : n0 ≤ H.length) (hH : ∀ x ∈ H, renB (sg n0 []) x = x) (hB : B.pre.length ≤ n0)
    (h1 : ∀ i o, i < m → l[i]? = some o → dstOk N o.dst = true ∧ StG P N l.toArray S n0 o (D.getD i ([], false)).1 (D.getD i ([], false)).2 (Ls i) (Ls (i + 1)) (Tx i) (Hx i) (vs i) (wrt i) ∧ Tx (i + 1) = setT (Tx i) o.dst (vs i) ∧ Hx (i + 1) = app (wrt i) (Hx i))
    (hK : ∀ a w I ρ, ExtW w0 I0 ρ0 w I ρ → Inv P w I ρ (Hx m) → TRel P w I ρ N (Tx m) a.tmps → Marks κ B w I ρ a.defers → wpListIn (Fr R) 0 P l.toArray QX (l.drop m) a w) :
    ∀ (fuel : Nat) (listed : Array Bool) (a : Act) (w : World), listed.toList.count false = fuel → listed.size = l.length → (∀ i o, l[i]? = some o → fl listed i = true → ∀ e ∈ o.after, Region.binds .any e = true → fl listed e.on = true) → (∀ i, m ≤ i → fl listed i = false) →
    SIG κ P N H n0 wrt m l T vs B w0 I0 ρ0 (fl listed) a w → wpAnyIn (Fr R) 0 P .any l.toArray QX fuel listed a w := by
  intro fuel
  have hlk := lk_Tx (vs := vs) hk hm h0 (fun i o hi ho => (h1 i o hi ho).2.2.1)
  have hget : ∀ i, i < m → ∃ o, l[i]? = some o := fun i hi => ⟨l[i]'(by omega), List.getElem?_eq_getElem _⟩
  have hHx : ∀ i, i ≤ m → Hx i = HH wrt (fun _ => true) H i := by
    intro i
    induction i with
    | zero => intro _; exact h0'
    | succ i ih =>
      intro hi
      obtain ⟨o, ho⟩ := hget i (by omega)
      rw [(h1 i o (by omega) ho).2.2.2, ih (by omega)]
      rfl
  have hwrt : ∀ i k b, i < m → (k, b) ∈ wrt i → k ∈ (D.getD i ([], false)).1 ∧ (D.getD i ([], false)).2 = true ∧ k ∈ S ∧ renB (sg n0 []) b = b := by
    intro i k b hi hw
    obtain ⟨o, ho⟩ := hget i hi
    obtain ⟨_, hst, _⟩ := h1 i o hi ho
    rcases hst with ⟨_, h2, _⟩ | ⟨h2, _, _, _, k', blk, h3, h4, h5, h6, _⟩ | ⟨h2, _, k', blk, v0, w1, h3, hw1, _, h4, h5, _, _, h6, _⟩
    · rw [h2] at hw; cases hw
    · rw [h3] at hw; simp at hw; obtain ⟨rfl, rfl⟩ := hw; exact ⟨h4, h2, h5, h6⟩
    · rw [h3] at hw
      rcases List.mem_append.1 hw with h7 | h7
      · obtain ⟨h8, h9, h10⟩ := hw1 _ h7; exact ⟨h8, h2, h9, h10⟩
      · simp at h7; obtain ⟨rfl, rfl⟩ := h7; exact ⟨h4, h2, h5, h6⟩
  have hLstep : ∀ i, i < m → Ls (i + 1) = Ls i ∨ ∃ k, Ls (i + 1) = k :: Ls i ∧ k ∉ Ls i ∧ k ∈ (D.getD i ([], false)).1 ∧ (D.getD i ([], false)).2 = true := by
    intro i hi
    obtain ⟨o, ho⟩ := hget i hi
    obtain ⟨_, hst, _⟩ := h1 i o hi ho
    rcases hst with ⟨_, _, h2, _⟩ | ⟨_, _, h2, _⟩ | ⟨h2, _, k, blk, v0, _, _, _, h3, h4, _, _, h5, _⟩
    · exact .inl h2
    · exact .inl h2
    · exact .inr ⟨k, h3, h5, h4, h2⟩
  have hLmono : ∀ i j k, i ≤ j → j ≤ m → k ∈ Ls i → k ∈ Ls j := by
    intro i j k hij
    induction j with
    | zero => intro _ hki; obtain rfl : i = 0 := by omega
              exact hki
    | succ j ih =>
      intro hj hki
      by_cases e : i = j + 1
      · subst e; exact hki
      · have := ih (by omega) (by omega) hki
        rcases hLstep j (by omega) with h | ⟨k', h, _⟩
        · rw [h]; exact this
        · rw [h]; exact List.mem_cons_of_mem _ this
  have hLmem : ∀ j k, j ≤ m → k ∈ Ls j → ∃ i, i < j ∧ k ∈ (D.getD i ([], false)).1 ∧ (D.getD i ([], false)).2 = true ∧ k ∉ Ls i ∧ k ∈ Ls (i + 1) := by
    intro j
    induction j with
    | zero => intro k _ h; rw [h0''] at h; cases h
    | succ j ih =>
      intro k hj h
      rcases hLstep j (by omega) with h2 | ⟨k', h2, h3, h4, h5⟩
      · rw [h2] at h
        obtain ⟨i, hi, h6⟩ := ih k (by omega) h
        exact ⟨i, by omega, h6⟩
      · rw [h2] at h
        rcases List.mem_cons.1 h with rfl | h
        · exact ⟨j, by omega, h4, h5, h3, by rw [h2]; simp⟩
        · obtain ⟨i, hi, h6⟩ := ih k (by omega) h
          exact ⟨i, by omega, h6⟩
  have hlen : ∀ f n, (HH wrt f H n).length = H.length := fun f n => HH_len n
  have hsta : ∀ f n, n ≤ m → ∀ x ∈ HH wrt f H n, renB (sg n0 []) x = x := by
    intro f n
    induction n with
    | zero => intro _ x hx; exact hH x hx
    | succ n ih =>
      intro hn x hx
      simp only [HH] at hx
      cases hf : f n with
      | false => rw [hf] at hx; exact ih (by omega) x hx
      | true =>
        rw [hf] at hx
        simp only [cond_true] at hx
        rcases mem_app hx with h | ⟨k, h⟩
        · exact ih (by omega) x h
        · exact (hwrt n k x (by omega) h).2.2.2
  have done : ∀ (fuel : Nat) (listed : Array Bool) (a : Act) (w : World), listed.toList.count false = fuel → listed.size = l.length → (∀ i, m ≤ i → fl listed i = false) → (∀ i, i < m → fl listed i = true) → SIG κ P N H n0 wrt m l T vs B w0 I0 ρ0 (fl listed) a w → wpAnyIn (Fr R) 0 P .any l.toArray QX fuel listed a w := by
    intro fuel listed a w hcnt hsz htl hall hsi
    obtain ⟨I, ρ, he, hi, hs, hrel, _, hmk⟩ := hsi
    rw [HH_same (g := fun _ => true) (fun j hj => hall j hj) m (Nat.le_refl _), ← hHx m (Nat.le_refl _)] at hi
    have hfl : ∀ i, fl listed i = decide (i < m) := fun i => by
      by_cases h : i < m
      · rw [hall i h]; simp [h]
      · rw [htl i (by omega)]; simp [h]
    have hcount : fuel + m = l.length := by
      have gen : ∀ (bs : List Bool) (k : Nat), k ≤ bs.length → (∀ i b, bs[i]? = some b → b = decide (i < k)) → bs.count false + k = bs.length := by
        intro bs
        induction bs with
        | nil => intro k hk _; simp at hk; simp [hk]
        | cons b bs ih =>
          intro k hk hb
          have hb0 := hb 0 b rfl
          cases k with
          | zero =>
            have := ih 0 (by omega) (fun i c hc => by have := hb (i + 1) c (by simpa using hc); simpa using this)
            simp at hb0
            subst hb0
            simp at this ⊢
            omega
          | succ k =>
            have := ih k (by simpa using hk) (fun i c hc => by have := hb (i + 1) c (by simpa using hc); simpa using this)
            simp at hb0
            subst hb0
            simp at this ⊢
            omega
      have := gen listed.toList m (by simpa [hsz] using hm) (fun i b hb => by
        have := hfl i
        unfold fl at this
        simp at hb
        rw [← this]
        simp [hb])
      rw [hcnt] at this
      simpa [hsz] using this
    refine draw_tail hk fuel m listed a w hcount (Nat.le_refl _) hsz (fun i _ => hfl i) (hK a w I ρ he hi ⟨hs, fun s v hv => hrel s v ?_⟩ hmk)
    rw [← hv, hlk m (Nat.le_refl _)]
    exact tl_congr hk fun j o hj hd => hfl j
  induction fuel with
  | zero =>
    intro listed a w hcnt hsz hcl htl hsi
    refine done 0 listed a w hcnt hsz htl (fun i hi => ?_) hsi
    have hlt : i < listed.size := by omega
    have h2 := List.count_eq_zero.1 hcnt
    unfold fl
    cases h3 : listed[i] with
    | true => simp [hlt, h3]
    | false => exact absurd (by rw [← h3]; exact Array.mem_toList_iff.2 (Array.getElem_mem hlt)) h2
  | succ fuel ih =>
    intro listed a w hcnt hsz hcl htl hsi
    by_cases hall : ∀ i, i < m → fl listed i = true
    · exact done (fuel + 1) listed a w hcnt hsz htl hall hsi
    · obtain ⟨i0, hi0, hmin⟩ : ∃ i0, (i0 < m ∧ fl listed i0 = false) ∧ ∀ j, j < i0 → fl listed j = true := by
        have hex : ∃ i, i < m ∧ fl listed i = false := by
          refine Classical.byContradiction fun hno => hall fun i hi => ?_
          cases h : fl listed i with
          | true => rfl
          | false => exact absurd ⟨i, hi, h⟩ hno
        obtain ⟨k, ⟨h3, h4⟩, h5⟩ := exists_least _ hex
        refine ⟨k, ⟨h3, h4⟩, fun j hj => ?_⟩
        cases h : fl listed j with
        | true => rfl
        | false => have := h5 j ⟨by omega, h⟩; omega
      have ho0 : l[i0]? = some (l[i0]'(by omega)) := List.getElem?_eq_getElem _
      have hr0 : i0 ∈ Region.ready .any l.toArray listed := by
        refine mem_ready.2 ⟨?_, (l[i0]'(by omega)), by rw [List.getElem?_toArray]; exact ho0, fun e he hb => hmin e.on (hk.back i0 _ ho0 e he hb)⟩
        have := hi0.2
        unfold fl at this
        have hlt : i0 < listed.size := by omega
        simp [hlt] at this ⊢
        exact this
      refine ⟨(fun h => by rw [h] at hr0; cases hr0), fun i hi => ?_⟩
      obtain ⟨h3, o, ho', hev⟩ := mem_ready.1 hi
      have ho : l[i]? = some o := by simpa using ho'
      have hilt := lt_of_get ho
      have hcl' : ∀ j oj, l[j]? = some oj → (decide (j = i) || fl listed j) = true → ∀ e ∈ oj.after, Region.binds .any e = true → (decide (e.on = i) || fl listed e.on) = true := fun j oj hj hfj e he hb => by
        simp only [Bool.or_eq_true, decide_eq_true_eq] at hfj ⊢
        rcases hfj with rfl | hfj
        · rw [ho] at hj; cases hj
          exact .inr (hev e he hb)
        · exact .inr (hcl j oj hj hfj e he hb)
      have him : i < m := by
        rcases Nat.lt_or_ge i m with h | h
        · exact h
        · have := hk.tail (fun j => decide (j = i) || fl listed j) hcl' i h hilt (by simp) i0 (by omega)
          have hne : ¬ i0 = i := by omega
          simp [hne, hi0.2] at this
      have hnl : fl listed i = false := by
        have hlt : i < listed.size := by omega
        unfold fl
        simp [hlt] at h3 ⊢
        exact h3
      obtain ⟨hdst, hy, _, _⟩ := h1 i o him ho
      obtain ⟨I, ρ, he, hinv, hs, hrel, hrelT, hmk⟩ := hsi
      -- two operations that use the same own block
      have hbefore : ∀ j k, j < i → ((D.getD j ([], false)).2 = true ∨ (D.getD i ([], false)).2 = true) → k ∈ (D.getD j ([], false)).1 → k ∈ (D.getD i ([], false)).1 → fl listed j = true := by
        intro j k hji hw hkj hki
        have := drawD_spec hD (fun j => decide (j = i) || fl listed j) hcl' hji him hw hkj hki (by simp)
        have hne : ¬ j = i := by omega
        simpa [hne] using this
      have hafter : ∀ j k, i < j → j < m → ((D.getD i ([], false)).2 = true ∨ (D.getD j ([], false)).2 = true) → k ∈ (D.getD i ([], false)).1 → k ∈ (D.getD j ([], false)).1 → fl listed j = false := by
        intro j k hij hj hw hki hkj
        cases hf : fl listed j with
        | false => rfl
        | true =>
          have := drawD_spec hD (fl listed) hcl hij hj hw hki hkj hf
          rw [hnl] at this; cases this
      have hF : mask (fun k => (HH wrt (fl listed) H m).getD k .dead) (difL S (D.getD i ([], false)).1) 0 (Hx i) = HH wrt (fl listed) H m := by
        apply List.ext_getElem?
        intro k
        rw [mask_get, Nat.zero_add]
        have hlx : (Hx i).length = H.length := by rw [hHx i (by omega)]; exact hlen _ _
        by_cases hin : k ∈ difL S (D.getD i ([], false)).1
        · rw [if_pos (by simpa using hin)]
          by_cases hkl : k < H.length
          · have e1 : k < (Hx i).length := by omega
            have e2 : k < (HH wrt (fl listed) H m).length := by rw [hlen]; exact hkl
            rw [List.getElem?_eq_getElem e1, List.getElem?_eq_getElem e2]
            simp [List.getD_eq_getElem?_getD, e2]
          · have e1 : (Hx i).length ≤ k := by omega
            have e2 : (HH wrt (fl listed) H m).length ≤ k := by rw [hlen]; omega
            rw [List.getElem?_eq_none e1, List.getElem?_eq_none e2]; rfl
        · rw [if_neg (by simpa using hin), hHx i (by omega)]
          have hor : k ∉ S ∨ k ∈ (D.getD i ([], false)).1 := by
            rw [mem_difL] at hin
            by_cases h : k ∈ S
            · exact .inr (Classical.byContradiction fun h2 => hin ⟨h, h2⟩)
            · exact .inl h
          have := HH_get (wrt := wrt) (f := fl listed) (H0 := H) (k := k) (i := i) (m := m)
            (fun j hj hji hw => by
              obtain ⟨b, hw⟩ := hw
              obtain ⟨h4, h5, h6, _⟩ := hwrt j k b hj hw
              rcases hor with h | h
              · exact absurd h6 h
              · exact hbefore j k hji (.inl h5) h4 h)
            (fun j hj hij hw => by
              obtain ⟨b, hw⟩ := hw
              obtain ⟨h4, h5, h6, _⟩ := hwrt j k b hj hw
              rcases hor with h | h
              · exact absurd h6 h
              · by_cases e : j = i
                · subst e; exact hnl
                · exact hafter j k (by omega) hj (.inr h5) h h4) m (Nat.le_refl _)
          rw [this, Nat.min_eq_right (by omega)]
      have hU : HH wrt (fl (listed.setIfInBounds i true)) H m = app (wrt i) (HH wrt (fl listed) H m) := by
        have := HH_upd (wrt := wrt) (f := fl listed) (g := fl (listed.setIfInBounds i true)) (H0 := H) him hnl (fun j => by rw [fl_set (by omega)]) (fun j hij hj hf k b1 b2 hw1 hw2 => by
          obtain ⟨h4, h5, _⟩ := hwrt j k b1 hj hw1
          obtain ⟨h6, h7, _⟩ := hwrt i k b2 him hw2
          have := hafter j k hij hj (.inl h7) h6 h4
          rw [hf] at this; cases this) m (Nat.le_refl _)
        rw [this, if_pos him]
      have hlook : ∀ s v, lk (restr l.toArray o (Tx i)) s = some v → RelV P w I ρ v (a.tmps.getD s undef) := by
        intro s v hv
        unfold restr at hv
        rw [lk_filterMap] at hv
        split at hv
        · rename_i hs'
          rw [hlk i (by omega)] at hv
          refine hrel s v ?_
          rw [← hv]
          refine tl_congr hk fun j oj hj hd => ?_
          by_cases hji : j = i
          · subst hji; rw [hnl]; simp
          · obtain ⟨k1, k2⟩ := hk.look (fun j => decide (j = i) || fl listed j) hcl' i j o oj s ho hj hs' hd (Ne.symm hji)
            rcases Nat.lt_trichotomy j i with h | h | h
            · have := k1 h (by simp)
              simp [hji] at this
              simp [this, h]
            · exact absurd h hji
            · have hkf := hk.look (fl listed) hcl i j o oj s ho hj hs' hd (Ne.symm hji)
              cases hfj : fl listed j with
              | false => simp; omega
              | true => have := hkf.2 h hfj; rw [hnl] at this; cases this
        · cases hv
      have htr : TRel P w I ρ N (restr l.toArray o (Tx i)) a.tmps := ⟨hs, hlook⟩
      have next : ∀ u w' I' ρ', ExtW w I ρ w' I' ρ' → Inv P w' I' ρ' (app (wrt i) (HH wrt (fl listed) H m)) → RelV P w' I' ρ' (vs i) u → (∀ s v, tl l T vs (fl listed) s = some v → RelV P w' I' ρ' v (a.tmps.getD s undef)) →
          (∀ s v, lk T s = some v → (∀ j o, l[j]? = some o → fl listed j = true → o.dst ≠ some s) → RelV P w' I' (ρ'.take n0) v (a.tmps.getD s undef)) → Marks κ B w' I' ρ' a.defers →
          wpAnyIn (Fr R) 0 P .any l.toArray QX fuel (listed.setIfInBounds i true) (a.put o.dst u) w' := by
        intro u w' I' ρ' he' hinv' hu hold holdT hmk'
        refine ih (listed.setIfInBounds i true) (a.put o.dst u) w' ?_ (by simp [hsz]) ?_ ?_ ?_
        · have hlt : i < listed.size := by omega
          have h5 : listed.toList[i]? = some false := by
            unfold fl at hnl
            simp [hlt] at hnl ⊢
            exact hnl
          have := count_set listed.toList i h5
          rw [Array.toList_setIfInBounds]
          omega
        · intro j oj hj hfj e hee hb
          rw [fl_set (by omega)] at hfj ⊢
          exact hcl' j oj hj hfj e hee hb
        · intro j hj
          rw [fl_set (by omega), htl j hj]
          have : ¬ j = i := by omega
          simp [this]
        · refine ⟨I', ρ', he.trans he', by rw [hU]; exact hinv', by cases o.dst <;> simp [Act.put, hs], fun s v hv => ?_, fun s v hv hno => ?_, hmk'.put⟩
          · cases hd : o.dst with
            | none =>
              have e1 : tl l T vs (fl (listed.setIfInBounds i true)) s = tl l T vs (fl listed) s := tl_congr hk fun j oj hj hdj => by
                rw [fl_set (by omega)]
                have : j ≠ i := fun e => by
                  subst e
                  rw [ho] at hj; cases hj
                  rw [hd] at hdj; cases hdj
                simp [this]
              rw [e1] at hv
              exact hold s v hv
            | some d =>
              have hlt : d < N := by
                rw [hd] at hdst
                simpa [dstOk, Nat.blt, Nat.lt_iff_add_one_le] using hdst
              by_cases hsd : d = s
              · subst hsd
                have e1 : tl l T vs (fl (listed.setIfInBounds i true)) d = some (vs i) := tl_some hk ho (by rw [fl_set (by omega)]; simp) hd
                rw [e1] at hv
                cases hv
                have h6 : d < a.tmps.size := by rw [hs]; exact hlt
                simpa [Act.put, h6] using hu
              · have e1 : tl l T vs (fl (listed.setIfInBounds i true)) s = tl l T vs (fl listed) s := tl_congr hk fun j oj hj hdj => by
                  rw [fl_set (by omega)]
                  have : j ≠ i := fun e => by
                    subst e
                    rw [ho] at hj; cases hj
                    rw [hd] at hdj; cases hdj
                    exact hsd rfl
                  simp [this]
                rw [e1] at hv
                have := hold s v hv
                simpa [Act.put, hsd] using this
          · have hno' : ∀ j o, l[j]? = some o → fl listed j = true → o.dst ≠ some s := fun j oj hj hf => hno j oj hj (by rw [fl_set (by omega), hf]; simp)
            have := holdT s v hv hno'
            cases hd : o.dst with
            | none => exact this
            | some d =>
              have hsd : d ≠ s := fun e => hno i o ho (by rw [fl_set (by omega)]; simp) (by rw [hd, e])
              simpa [Act.put, hsd] using this
      have nextE : ∀ u w' I' ρ', Ext w I ρ w' I' ρ' → Inv P w' I' ρ' (app (wrt i) (HH wrt (fl listed) H m)) → RelV P w' I' ρ' (vs i) u → wpAnyIn (Fr R) 0 P .any l.toArray QX fuel (listed.setIfInBounds i true) (a.put o.dst u) w' := by
        intro u w' I' ρ' he' hinv' hu
        refine next u w' I' ρ' he'.w hinv' hu (fun s v hv => (hrel s v hv).ext he') (fun s v hv hno => ?_) (hmk.ext he')
        have h4 := hrelT s v hv hno
        have h5 : ρ.take n0 <+: ρ'.take n0 := by
          obtain ⟨t, ht⟩ := he'.pre
          rw [← ht, List.take_append]
          exact ⟨_, rfl⟩
        exact RelV.mono he'.w.imm he'.w.immKeep h5 (fun b _ s hs => he'.w.shape b s hs) v _ h4
      rcases hy with ⟨_, hw, _, _, hy⟩ | ⟨_, hg, _, _, k, blk, hw, hku, hkS, _, hop⟩ | ⟨hwr, hg, k, blk, v0, w1, hw, hw1, _, hus, hkS, hk0, hkL, hbs, hv0, hvi, hkl, hop⟩
      · have hy := hy (fun k => (HH wrt (fl listed) H m).getD k .dead)
        rw [hF] at hy
        have nextE : ∀ u w' I' ρ', Ext w I ρ w' I' ρ' → Inv P w' I' ρ' (HH wrt (fl listed) H m) → RelV P w' I' ρ' (vs i) u → wpAnyIn (Fr R) 0 P .any l.toArray QX fuel (listed.setIfInBounds i true) (a.put o.dst u) w' := by
          rw [hw] at nextE; exact nextE
        unfold wpOpIn
        simp only [ho']
        rcases hy with ⟨hg, hop⟩ | ⟨j, want, s, c, x, v', hg, hsl, hsN, hb, hc, hv, hop⟩
        · simp only [Region.wanted, hg, if_true]
          exact hop R w I ρ a hinv htr _ _ nextE
        · have hyl := yielded_of hsl htr hsN hb hc
          simp only [Region.wanted, hg, hyl]
          cases c with
          | true =>
            simp only [if_true]
            obtain ⟨T2, hsub, hop⟩ := hop rfl
            exact hop R w I ρ a hinv (htr.subG hsub) _ _ fun u w' I' ρ' he' hi' hu => nextE u w' I' ρ' he' hi' (by rw [hv]; exact ⟨fun _ => hu, (fun h => by cases h)⟩)
          | false =>
            simp only [Bool.false_eq_true, if_false]
            exact ⟨about_wide, nextE undef w I ρ (Ext.refl _ _ _) hinv (by rw [hv]; exact ⟨(fun h => by cases h), fun _ => rfl⟩)⟩
      · have hop := hop (fun k => (HH wrt (fl listed) H m).getD k .dead)
        rw [mask_set (fun h => (mem_difL.1 h).2 hku), hF] at hop
        unfold wpOpIn
        simp only [ho']
        simp only [Region.wanted, hg, if_true]
        exact hop R w I ρ a hinv htr _ _ (by rw [hw] at nextE; exact nextE)
      · have hop := hop (fun k => (HH wrt (fl listed) H m).getD k .dead)
        have hF1 : ∀ (w1 : List (Nat × Blk)) (X : List Blk), (∀ p ∈ w1, p.1 ∈ (D.getD i ([], false)).1) → mask (fun k => (HH wrt (fl listed) H m).getD k .dead) (difL S (D.getD i ([], false)).1) 0 (app w1 X) = app w1 (mask (fun k => (HH wrt (fl listed) H m).getD k .dead) (difL S (D.getD i ([], false)).1) 0 X) := by
          intro w1
          induction w1 with
          | nil => intro X _; rfl
          | cons p w1 ih2 =>
            intro X hp
            obtain ⟨k1, b1⟩ := p
            simp only [app]
            rw [ih2 _ (fun q hq => hp q (by simp [hq])), mask_set (fun h => (mem_difL.1 h).2 (hp (k1, b1) (by simp)))]
        rw [hF1 w1 _ (fun p hp => (hw1 p hp).1), hF] at hop
        unfold wpOpIn
        simp only [ho']
        simp only [Region.wanted, hg, if_true]
        refine hop R w I ρ a hinv htr _ _ fun u w' I' ρ' he' hi' hu => ?_
        have hlF0 : (HH wrt (fl listed) H m).length = H.length := hlen _ _
        have hlF : (app w1 (HH wrt (fl listed) H m)).length = H.length := (app_len _ _).trans hlF0
        have hlx : (Hx i).length = H.length := by rw [hHx i (by omega)]; exact hlen _ _
        have hρl : ρ.length = H.length := hinv.len.trans hlF0
        have hρl' : ρ'.length = H.length + 1 := by rw [hi'.len]; simp [hlF]
        have hkl' : k < H.length := by omega
        obtain ⟨b, hρ'⟩ : ∃ b, ρ' = ρ ++ [b] := by
          obtain ⟨t, ht⟩ := he'.pre
          have : t.length = 1 := by
            have := congrArg List.length ht
            simp at this
            omega
          match t, this with
          | [b], _ => exact ⟨b, ht.symm⟩
        subst hρ'
        have hg2 : ∀ j, j ≠ k → j < H.length → (ρ.set k b)[j]? = (ρ ++ [b])[j]? := fun j hj hjl => by
          rw [List.getElem?_set, if_neg (Ne.symm hj), List.getElem?_append_left (by omega)]
        have hτ : ∀ ms : List Nat, (∀ i ∈ ms, i < H.length ∧ i ≠ k) → ∀ i j c : Nat, sg n0 ms i = some j → (ρ ++ [b])[i]? = some c → (ρ.set k b)[j]? = some c := fun ms hms x y c hxy hc => by
          obtain ⟨rfl, hx⟩ := sg_id hxy
          rcases hx with hx | hx
          · rw [hg2 y (by omega) (by omega)]; exact hc
          · rw [hg2 y (hms y hx).2 (hms y hx).1]; exact hc
        have hσ : ∀ i j c : Nat, sw k H.length i = some j → (ρ ++ [b])[i]? = some c → (ρ.set k b)[j]? = some c := fun x y c hxy hc => by
          unfold sw at hxy
          by_cases e1 : x = H.length
          · have hb1 : Nat.beq x H.length = true := by subst e1; exact Nat.beq_refl _
            rw [hb1] at hxy
            cases hxy
            subst e1
            rw [← hρl, List.getElem?_append_right (Nat.le_refl _)] at hc
            simp at hc
            subst hc
            rw [List.getElem?_set_self (by omega)]
          · have hb1 : Nat.beq x H.length = false := by
              cases h : Nat.beq x H.length with
              | false => rfl
              | true => exact absurd (Nat.eq_of_beq_eq_true h) e1
            rw [hb1] at hxy
            by_cases e2 : x = k
            · have hb2 : Nat.beq x k = true := by subst e2; exact Nat.beq_refl _
              rw [hb2] at hxy
              cases hxy
            · have hb2 : Nat.beq x k = false := by
                cases h : Nat.beq x k with
                | false => rfl
                | true => exact absurd (Nat.eq_of_beq_eq_true h) e2
              rw [hb2] at hxy
              cases hxy
              have hxl : x < H.length := by
                have := (List.getElem?_eq_some_iff.1 hc).1
                simp at this
                omega
              rw [hg2 x e2 hxl]; exact hc
        have hat : ∀ (j c : Nat) (x : Blk), (ρ.set k b)[j]? = some c → ((app w1 (HH wrt (fl listed) H m)).set k blk)[j]? = some x → ∃ j', (ρ ++ [b])[j']? = some c ∧ (app w1 (HH wrt (fl listed) H m) ++ [blk])[j']? = some x ∧ j' = (if j = k then H.length else j) := by
          intro j c x h4 h5
          by_cases e : j = k
          · subst e
            rw [List.getElem?_set_self (by omega)] at h4 h5
            cases h4; cases h5
            refine ⟨H.length, ?_, ?_, by simp⟩
            · rw [← hρl, List.getElem?_append_right (Nat.le_refl _)]; simp
            · rw [← hlF, List.getElem?_append_right (Nat.le_refl _)]; simp
          · rw [List.getElem?_set, if_neg (Ne.symm e)] at h4 h5
            refine ⟨j, ?_, ?_, by rw [if_neg e]⟩
            · rw [List.getElem?_append_left (List.getElem?_eq_some_iff.1 h4).1]; exact h4
            · rw [List.getElem?_append_left (List.getElem?_eq_some_iff.1 h5).1]; exact h5
        have hstb : ∀ x ∈ (app w1 (HH wrt (fl listed) H m) ++ [blk]), renB (sg n0 []) x = x := fun x hx => by
          rcases List.mem_append.1 hx with h | h
          · rcases mem_app h with h | ⟨q, h⟩
            · exact hsta _ m (Nat.le_refl _) x h
            · exact (hw1 _ h).2.2
          · simp at h; subst h; exact hbs
        have hE2 : ExtW w I ρ w' I' (ρ.set k b) := by
          have hEw := he'.w
          exact ⟨hEw.os, hEw.tape, hEw.output, hEw.size, hEw.keep, hEw.shape, hEw.imm, hEw.immKeep, hEw.immNew, hEw.defKeep, hEw.defI, fun c hc => by
            rcases List.mem_or_eq_of_mem_set hc with h | rfl
            · exact .inl h
            · exact hEw.new c (by simp)⟩
        have hI2 : Inv P w' I' (ρ.set k b) ((app w1 (HH wrt (fl listed) H m)).set k blk) := by
          refine ⟨by simp [hρl, hlF], fun j c x h4 h5 h6 => ?_, hi'.ib, fun j c x h4 h5 h6 => ?_, fun j j' c x y h4 h5 h6 h7 h8 h9 => ?_, fun j c x h4 h5 => ?_, hi'.gl⟩
          · obtain ⟨j', k1, k2, _⟩ := hat j c x h4 h5
            exact hi'.bnd j' c x k1 k2 h6
          · obtain ⟨j', k1, k2, _⟩ := hat j c x h4 h5
            exact hi'.live j' c x k1 k2 h6
          · obtain ⟨i1, k1, k2, k3⟩ := hat j c x h4 h6
            obtain ⟨i2, k4, k5, k6⟩ := hat j' c y h5 h7
            have := hi'.dist i1 i2 c x y k1 k4 k2 k5 h8 h9
            subst this
            have hj1 : j < H.length := by have := (List.getElem?_eq_some_iff.1 h4).1; simp at this; omega
            have hj2 : j' < H.length := by have := (List.getElem?_eq_some_iff.1 h5).1; simp at this; omega
            rw [k3] at k6
            by_cases e1 : j = k <;> by_cases e2 : j' = k
            · omega
            · rw [if_pos e1, if_neg e2] at k6; omega
            · rw [if_neg e1, if_pos e2] at k6; omega
            · rw [if_neg e1, if_neg e2] at k6; exact k6
          · obtain ⟨j', k1, k2, _⟩ := hat j c x h4 h5
            have := renB_rel (hτ [] (fun _ h => by cases h)) (hi'.rel j' c x k1 k2)
            rwa [hstb x (List.mem_of_getElem? k2)] at this
        refine next u w' I' (ρ.set k b) hE2 (by rw [hw, app_app]; exact hI2) ?_ (fun s v hv => ?_) (fun s v hv hno => ?_) ?_
        · rw [hv0, hlx]
          exact renV_rel hσ v0 u hu
        · by_cases hex : ∃ j oj, l[j]? = some oj ∧ fl listed j = true ∧ oj.dst = some s
          · obtain ⟨j, oj, h4, h5, h6⟩ := hex
            have hv' := hv
            rw [tl_some hk h4 h5 h6] at hv
            cases hv
            have hjm : j < m := by
              rcases Nat.lt_or_ge j m with h | h
              · exact h
              · rw [htl j h] at h5; cases h5
            have hji : j ≠ i := fun e => by rw [e, hnl] at h5; cases h5
            have hrelj := (hrel s _ hv').ext he'
            have hkey : ∀ x, x ∈ (D.getD j ([], false)).1 → x ∈ Ls (j + 1) → x ≠ k ∧ x < H.length := by
              intro x hx1 hx2
              constructor
              · rintro rfl
                have hc1 : (D.getD i ([], false)).2 = true := hwr
                have hki : x ∈ (D.getD i ([], false)).1 := hus
                rcases Nat.lt_or_gt_of_ne hji with h | h
                · exact hkL (hLmono (j + 1) i x (by omega) (by omega) hx2)
                · have := hafter j x h hjm (.inl hc1) hki hx1
                  rw [h5] at this; cases this
              · obtain ⟨i2, h7, h8, h9, h10, h11⟩ := hLmem (j + 1) x (by omega) hx2
                obtain ⟨o2, ho2⟩ := hget i2 (by omega)
                obtain ⟨_, hst, _⟩ := h1 i2 o2 (by omega) ho2
                rcases hst with ⟨h12, _⟩ | ⟨_, _, h12, _⟩ | ⟨_, _, k2, blk2, v2, _, _, _, h13, h14, _, _, _, _, _, _, h15, _⟩
                · rw [h9] at h12; cases h12
                · rw [h12] at h11; exact absurd h11 h10
                · rw [h13] at h11
                  rcases List.mem_cons.1 h11 with h16 | h16
                  · rw [hHx i2 (by omega), hlen] at h15
                    rw [h16]; exact h15
                  · exact absurd h16 h10
            obtain ⟨_, hstj, _⟩ := h1 j oj hjm h4
            have hmsj : ∃ ms : List Nat, renV (sg n0 ms) (vs j) = vs j ∧ ∀ x ∈ ms, x ∈ (D.getD j ([], false)).1 ∧ x ∈ Ls (j + 1) := by
              rcases hstj with ⟨_, _, h7, h8, _⟩ | ⟨_, _, h7, h8, _⟩ | ⟨_, _, k2, blk2, v2, _, _, _, h7, h8, _, _, _, _, _, h9, _⟩
              · exact ⟨_, h8, fun x hx => by rw [h7]; simpa [intL] using hx⟩
              · exact ⟨_, h8, fun x hx => by rw [h7]; simpa [intL] using hx⟩
              · exact ⟨_, h9, fun x hx => by simp at hx; subst hx; exact ⟨h8, by rw [h7]; simp⟩⟩
            obtain ⟨ms, hms1, hms2⟩ := hmsj
            have := renV_rel (hτ ms (fun x hx => ⟨(hkey x (hms2 x hx).1 (hms2 x hx).2).2, (hkey x (hms2 x hx).1 (hms2 x hx).2).1⟩)) (vs j) _ hrelj
            rwa [hms1] at this
          · have hno : ∀ j o, l[j]? = some o → fl listed j = true → o.dst ≠ some s := fun j oj h4 h5 h6 => hex ⟨j, oj, h4, h5, h6⟩
            rw [tl_none hno] at hv
            have h4 := hrelT s v hv hno
            have h5 : ρ.take n0 <+: ρ.set k b := by
              rw [List.prefix_iff_eq_take, List.take_set_of_le (by simp; omega), List.length_take, Nat.min_eq_left (by omega)]
            exact RelV.mono he'.w.imm he'.w.immKeep h5 (fun b _ s hs => he'.w.shape b s hs) v _ h4
        · have h4 := hrelT s v hv hno
          have h5 : ρ.take n0 <+: (ρ.set k b).take n0 := by
            rw [List.take_set_of_le (by omega)]
            exact List.prefix_refl _
          exact RelV.mono he'.w.imm he'.w.immKeep h5 (fun b _ s hs => he'.w.shape b s hs) v _ h4
        · have hm2 := hmk.ext he'
          obtain ⟨q1, q2, q3, q4⟩ := hm2
          refine ⟨q1, q2, ?_, q4⟩
          obtain ⟨_, _, q5, _⟩ := hmk
          rw [List.prefix_iff_eq_take] at q5 ⊢
          rw [List.take_set_of_le (by omega)]
          exact q5

theorem To.pads {κ : Nat} : ∀ (r : Nat) {H : List Blk}, To P κ N T H T (H ++ deads r)
  | 0, H => by simpa [deads] using To.refl
  | r + 1, H => by
    have := (To.pad (P := P) (κ := κ) (N := N) (T := T) (H := H)).trans (To.pads r (H := H ++ [.dead]))
    simpa [deads] using this

/-- **A region that draws its order**, by one pass in the order of the text: the first m operations may lay own blocks, at r places that are kept for them, and write own blocks of S; the others are forced to come behind them, in their order. -/
theorem AWp.regionDrawG {id : Nat} (m r : Nat) (S : List Nat) (D : List (List Nat × Bool)) (hmx : P.follows .mixedOrders = true) (hk : drawOk m l = true) (hm : m ≤ l.length) (hD : drawD m l D = true) (hκ : Nat.ble κ H.length = true) (hH : H.map (renB (sg H.length [])) = H)
    (h : AQG P N l.toArray S H.length (fun T' H' => AList P R N κ l.toArray (l.drop m) Q T' H') [] D (l.take m) T (H ++ deads r)) : AWp P R N κ (.region id l.toArray true) Q T H := by
  intro B w I ρ a hi ht hmk
  have hκ : κ ≤ H.length := by simpa using hκ
  obtain ⟨vs, Tx, Hx, wrt, Ls, h0, h0', h0'', h1, h2⟩ := AQG.vals h
  have hlen : (l.take m).length = m := by simp; omega
  rw [hlen] at h2
  refine wpIn_region_any hmx ?_
  have hi' : Inv P w.drew I ρ H := hi.drew
  obtain ⟨I2, ρ2, hE, hi2, _, hp⟩ := To.pads (P := P) (κ := ρ.length) (N := N) (T := T) r w.drew I ρ a.tmps hi' (ht.ext Ext.drew)
  have hpre : ρ <+: ρ2 := hp ρ (List.prefix_refl _) (Nat.le_refl _)
  have hρl : ρ.length = H.length := hi.len
  have htk : ρ2.take H.length = ρ := by
    rw [← hρl]; exact (List.prefix_iff_eq_take.1 hpre).symm
  have hE0 : ExtW w I ρ w.drew I2 ρ2 := (Ext.drew (w := w) (I := I) (ρ := ρ)).w.trans hE
  have hrT : ∀ s v, lk T s = some v → RelV P w.drew I2 ρ v (a.tmps.getD s undef) := fun s v hv =>
    RelV.mono hE.imm (fun _ _ => rfl) (List.prefix_refl ρ) (fun _ _ _ hs => hs) v _ ((ht.at_ s v hv).ext (Ext.drew (w := w) (I := I) (ρ := ρ)))
  have hH' : ∀ x ∈ H, renB (sg H.length []) x = x := fun x hx => by
    obtain ⟨i, hil, rfl⟩ := List.getElem_of_mem hx
    have : (H.map (renB (sg H.length [])))[i]? = H[i]? := by rw [hH]
    rw [List.getElem?_map, List.getElem?_eq_getElem hil] at this
    simpa using this
  refine draw_mainG (κ := κ) (DrawOk.of hk) hm hD (B := B) (w0 := w) (I0 := I) (ρ0 := ρ) h0 h0' h0'' (by simp) (fun x hx => ?_) (Nat.le_trans hmk.2.1 hκ) (fun i o him ho => h1 i o (by rw [List.getElem?_take, if_pos him]; exact ho)) ?_ _ _ a w.drew (by simp) (by simp) ?_ ?_ ?_
  · rcases List.mem_append.1 hx with h | h
    · exact hH' x h
    · have : ∀ r, x ∈ deads r → x = .dead := by
        intro r
        induction r with
        | zero => intro h; cases h
        | succ r ih => intro h; rcases List.mem_cons.1 h with h | h
                       · exact h
                       · exact ih h
      rw [this r h]; rfl
  · intro a' w' I' ρ' he hi2 ht2 hm2
    exact h2 _ B w' I' ρ' a' hi2 ht2 hm2 fun e a2 w2 q => QC.ext he q
  · intro i o ho hf
    have hlt := lt_of_get ho
    simp [fl, hlt] at hf
  · intro i _
    unfold fl
    by_cases hlt : i < l.length <;> simp [hlt]
  · have hnone : ∀ f : Nat, HH wrt (fl (Array.replicate l.length false)) (H ++ deads r) f = H ++ deads r := by
      intro f
      induction f with
      | zero => rfl
      | succ f ih =>
        have e0 : fl (Array.replicate l.length false) f = false := by
          unfold fl
          by_cases hlt : f < l.length <;> simp [hlt]
        simp only [HH, e0, cond_false, ih]
    refine ⟨I2, ρ2, hE0, by simpa only [List.size_toArray, hnone] using hi2, ht.size, fun s v hv => ?_, fun s v hv _ => ?_, hmk.extW hE0 (hmk.2.2.1.trans hpre)⟩
    · rw [tl_none (fun j o hj hf => by
        unfold fl at hf
        by_cases hlt : j < l.length <;> simp [hlt] at hf)] at hv
      exact RelV.mono (fun _ h => h) (fun _ _ => rfl) hpre (fun _ _ _ hs => hs) v _ (hrT s v hv)
    · rw [htk]; exact hrT s v hv

end
end
end Go.AF
