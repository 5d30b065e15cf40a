/-
  Regions that draw; slices, maps, ranges over functions, appends. No condition; generic over any program.
-/
import Derived.Test.YtplofbjppcbchaaDoorFaVA
import Derived.Maps.RangeRun
import Derived.Laws.StructEq
import Derived.ChangeKeysEq
section
/-! ## Regions that draw their order: one pass in the order of the text serves every order, where the edges force what the operands need. -/
section
set_option linter.unusedVariables false
set_option linter.unusedSimpArgs false
set_option linter.unnecessarySimpa false
namespace Go.AF

/-- The slots that an operation looks at, with their values. -/
def restr (ops : Array Oper) (o : Oper) (T : Tm) : Tm := (o.looksAt ops).filterMap fun s => (lk T s).map (s, ·)

theorem lk_filterMap (T : Tm) : ∀ (l : List Nat) (s : Nat), lk (l.filterMap fun s => (lk T s).map (s, ·)) s = if s ∈ l then lk T s else none
  | [], s => by simp [lk]
  | x :: l, s => by
    have ih := lk_filterMap T l s
    by_cases hx : x = s
    · subst hx
      cases h : lk T x with
      | none =>
        simp only [List.filterMap_cons, h, Option.map_none, List.mem_cons, true_or, if_true]
        rw [ih]
        split
        · exact h
        · rfl
      | some v => simp [List.filterMap_cons, h, lk]
    · have hb : Nat.beq x s = false := by
        cases h0 : Nat.beq x s with
        | false => rfl
        | true => exact absurd (Nat.eq_of_beq_eq_true h0) hx
      have hm : (s ∈ x :: l) ↔ s ∈ l := by simp [Ne.symm hx]
      simp only [hm]
      cases h : lk T x with
      | none => simp only [List.filterMap_cons, h, Option.map_none]; exact ih
      | some v => simp only [List.filterMap_cons, h, Option.map_some, lk, hb, cond_false]; exact ih

/-- An operation that leaves the own blocks alone yields v, carried out or not. -/
def YJ (P : Program) (N : Nat) (ops : Array Oper) (o : Oper) (T : Tm) (H : List Blk) (v : V) : Prop :=
  (o.guard = none ∧ OpJ P N o (restr ops o T) H v H) ∨
  (∃ j want s c x v', o.guard = some (j, want) ∧ gslot ops j = some s ∧ dstOk N (some s) = true ∧ lk (restr ops o T) s = some x ∧ gcond want x = some c ∧ v = .opt c v' ∧ (c = true → ∃ T2, subG T2 (restr ops o T) ∧ OpJ P N o T2 H v' H))

def AQuiet (P : Program) (N : Nat) (ops : Array Oper) (H : List Blk) (K : Tm → Prop) : List Oper → Tm → Prop
  | [], T => K T
  | o :: rest, T => ∃ v, dstOk N o.dst = true ∧ YJ P N ops o T H v ∧ AQuiet P N ops H K rest (setT T o.dst v)

section
variable {P : Program} {R : Option Nat} {N κ : Nat} {Q : Post} {T : Tm} {H : List Blk} {o : Oper} {ops : Array Oper} {K : Tm → Prop} {rest : List Oper}
theorem AQuiet.nil (h : K T) : AQuiet P N ops H K [] T := h
theorem AQuiet.cons (d : Nat) {v : V} (hd : o.dst = some d) (hdN : dstOk N (some d) = true) (hg : o.guard = none) (hop : OpJ P N o (restr ops o T) H v H) (next : AQuiet P N ops H K rest ((d, v) :: T)) : AQuiet P N ops H K (o :: rest) T :=
  ⟨v, by rw [hd]; exact hdN, .inl ⟨hg, hop⟩, by rw [hd]; exact next⟩
theorem AQuiet.guard (d s : Nat) {j : Nat} {want c : Bool} {x v : V} (hd : o.dst = some d) (hdN : dstOk N (some d) = true) (hg : o.guard = some (j, want)) (hs : gslot ops j = some s) (hsN : dstOk N (some s) = true) (hb : lk (restr ops o T) s = some x) (hc : gcond want x = some c)
    (T2 : Tm) (h2 : c = true → subG T2 (restr ops o T)) (hop : c = true → OpJ P N o T2 H v H) (next : AQuiet P N ops H K rest ((d, .opt c v) :: T)) : AQuiet P N ops H K (o :: rest) T :=
  ⟨_, by rw [hd]; exact hdN, .inr ⟨j, want, s, c, x, v, hg, hs, hsN, hb, hc, rfl, fun h => ⟨T2, h2 h, hop h⟩⟩, by rw [hd]; exact next⟩

/-! ### The check -/
/-- The operations that must have come before, as the bits of a number, for each operation. -/
def ancE (t : List Nat) : List Edge → Nat
  | [] => 0
  | e :: es => bif Region.binds .any e then (1 <<< e.on) ||| t.getD e.on 0 ||| ancE t es else ancE t es
def ancAux : List Nat → List Oper → List Nat
  | t, [] => t
  | t, o :: l => ancAux (t ++ [ancE t o.after.toList]) l
/-- Edges lead back; no slot is written twice; what is looked at is settled; behind place m all is forced. -/
def drawOk (m : Nat) (l : List Oper) : Bool :=
  let t := ancAux [] l
  let ix := List.range l.length
  (ix.all fun i => (l.getD i default).after.toList.all fun e => !Region.binds .any e || decide (e.on < i)) &&
  (ix.all fun i => ix.all fun j => i == j || ((l.getD i default).dst.isNone || !((l.getD i default).dst == (l.getD j default).dst))) &&
  (ix.all fun i => ((l.getD i default).looksAt l.toArray).all fun s => ix.all fun j => i == j || !((l.getD j default).dst == some s) || (if j < i then (t.getD i 0).testBit j else (t.getD j 0).testBit i)) &&
  (ix.all fun i => decide (i < m) || (List.range i).all fun j => (t.getD i 0).testBit j)

theorem ancE_spec (t : List Nat) (x : Nat) : ∀ es : List Edge, (ancE t es).testBit x = true → ∃ e ∈ es, Region.binds .any e = true ∧ (x = e.on ∨ (t.getD e.on 0).testBit x = true)
  | [], h => by simp [ancE] at h
  | e :: es, h => by
    simp only [ancE] at h
    cases hb : Region.binds .any e with
    | true =>
      rw [hb] at h
      simp only [cond_true, Nat.testBit_or, Bool.or_eq_true] at h
      rcases h with (h | h) | h
      · refine ⟨e, by simp, hb, .inl ?_⟩
        rw [Nat.one_shiftLeft, Nat.testBit_two_pow] at h
        simpa [eq_comm] using h
      · exact ⟨e, by simp, hb, .inr h⟩
      · obtain ⟨e', h1, h2⟩ := ancE_spec t x es h
        exact ⟨e', by simp [h1], h2⟩
    | false =>
      rw [hb] at h
      obtain ⟨e', h1, h2⟩ := ancE_spec t x es h
      exact ⟨e', by simp [h1], h2⟩
theorem ancAux_spec (f : Nat → Bool) : ∀ (l pre : List Oper) (t : List Nat), t.length = pre.length →
    (∀ i o, (pre ++ l)[i]? = some o → f i = true → ∀ e ∈ o.after, Region.binds .any e = true → f e.on = true) →
    (∀ i x, i < t.length → (t.getD i 0).testBit x = true → f i = true → f x = true) → ∀ i x, ((ancAux t l).getD i 0).testBit x = true → f i = true → f x = true
  | [], pre, t, hl, hc, ht, i, x, hx, hi => by
    by_cases h : i < t.length
    · exact ht i x h hx hi
    · simp only [ancAux] at hx
      rw [List.getD_eq_getElem?_getD, List.getElem?_eq_none (by omega)] at hx
      simp at hx
  | o :: l, pre, t, hl, hc, ht, i, x, hx, hi => by
    refine ancAux_spec f l (pre ++ [o]) _ (by simp [hl]) (by simpa using hc) ?_ i x hx hi
    intro k y hk hy hfk
    by_cases h : k < t.length
    · rw [List.getD_eq_getElem?_getD, List.getElem?_append_left h, ← List.getD_eq_getElem?_getD] at hy
      exact ht k y h hy hfk
    · have hk' : k = t.length := by simp at hk; omega
      subst hk'
      rw [List.getD_eq_getElem?_getD, List.getElem?_append_right (Nat.le_refl _)] at hy
      simp only [Nat.sub_self, List.getElem?_cons_zero, Option.getD_some] at hy
      obtain ⟨e, he, hb, hy⟩ := ancE_spec t y _ hy
      have ho : (pre ++ o :: l)[t.length]? = some o := by rw [hl]; simp
      have hon := hc _ o ho hfk e (by simpa using he) hb
      rcases hy with rfl | hy
      · exact hon
      · by_cases h2 : e.on < t.length
        · exact ht e.on y h2 hy hon
        · rw [List.getD_eq_getElem?_getD, List.getElem?_eq_none (by omega)] at hy
          simp at hy

/-- What the slots hold once the operations of f have been carried out. -/
def tl (l : List Oper) (T : Tm) (vs : Nat → V) (f : Nat → Bool) (s : Nat) : Option V :=
  match (List.range l.length).find? fun j => f j && (l.getD j default).dst == some s with
  | some j => some (vs j)
  | none => lk T s

structure DrawOk (m : Nat) (l : List Oper) : Prop where
  back : ∀ (i : Nat) (o : Oper), l[i]? = some o → ∀ e ∈ o.after, Region.binds .any e = true → e.on < i
  uniq : ∀ (i j : Nat) (oi oj : Oper) (s : Nat), l[i]? = some oi → l[j]? = some oj → oi.dst = some s → oj.dst = some s → i = j
  look : ∀ (f : Nat → Bool), (∀ (i : Nat) (o : Oper), l[i]? = some o → f i = true → ∀ e ∈ o.after, Region.binds .any e = true → f e.on = true) → ∀ (i j : Nat) (oi oj : Oper) (s : Nat), l[i]? = some oi → l[j]? = some oj → s ∈ oi.looksAt l.toArray → oj.dst = some s → i ≠ j → (j < i → f i = true → f j = true) ∧ (i < j → f j = true → f i = true)
  tail : ∀ (f : Nat → Bool), (∀ (i : Nat) (o : Oper), l[i]? = some o → f i = true → ∀ e ∈ o.after, Region.binds .any e = true → f e.on = true) → ∀ i, m ≤ i → i < l.length → f i = true → ∀ j, j < i → f j = true

theorem getD_of {l : List Oper} {i : Nat} {o : Oper} (h : l[i]? = some o) : l.getD i default = o := by simp [List.getD_eq_getElem?_getD, h]
theorem lt_of_get {α : Type} {l : List α} {i : Nat} {o : α} (h : l[i]? = some o) : i < l.length := (List.getElem?_eq_some_iff.1 h).1

theorem DrawOk.of {m : Nat} {l : List Oper} (h : drawOk m l = true) : DrawOk m l := by
  simp only [drawOk, Bool.and_eq_true] at h
  obtain ⟨⟨⟨h1, h2⟩, h3⟩, h4⟩ := h
  have spec := fun (f : Nat → Bool) hc => ancAux_spec f l [] [] rfl (by simpa using hc) (fun i x h => by simp at h)
  refine ⟨fun i o ho e he hb => ?_, fun i j oi oj s hi hj hdi hdj => ?_, fun f hc i j oi oj s hi hj hs hd hne => ?_, fun f hc i hm hi hf j hj => ?_⟩
  · have := List.all_eq_true.1 (List.all_eq_true.1 h1 i (List.mem_range.2 (lt_of_get ho))) e (by rw [getD_of ho]; simpa using he)
    simpa [hb] using this
  · have := List.all_eq_true.1 (List.all_eq_true.1 h2 i (List.mem_range.2 (lt_of_get hi))) j (List.mem_range.2 (lt_of_get hj))
    rw [getD_of hi, getD_of hj, hdi, hdj] at this
    simpa using this
  · have := List.all_eq_true.1 (List.all_eq_true.1 (List.all_eq_true.1 h3 i (List.mem_range.2 (lt_of_get hi))) s (by rw [getD_of hi]; exact hs)) j (List.mem_range.2 (lt_of_get hj))
    rw [getD_of hj, hd] at this
    have hne' : (i == j) = false := by simpa using hne
    simp only [hne', Bool.false_or, BEq.rfl, Bool.not_true] at this
    constructor
    · intro hlt hfi
      rw [if_pos hlt] at this
      exact spec f hc i j (by simpa using this) hfi
    · intro hlt hfj
      rw [if_neg (by omega)] at this
      exact spec f hc j i (by simpa using this) hfj
  · have := List.all_eq_true.1 h4 i (List.mem_range.2 hi)
    have hn : decide (i < m) = false := by simpa using hm
    rw [hn, Bool.false_or] at this
    have := List.all_eq_true.1 this j (List.mem_range.2 hj)
    exact spec f hc i j (by simpa using this) hf

section
variable {m : Nat} {l : List Oper} {vs : Nat → V}
theorem tl_some (hk : DrawOk m l) {f : Nat → Bool} {j : Nat} {o : Oper} {s : Nat} (hj : l[j]? = some o) (hf : f j = true) (hd : o.dst = some s) : tl l T vs f s = some (vs j) := by
  unfold tl
  cases hfd : (List.range l.length).find? (fun j => f j && (l.getD j default).dst == some s) with
  | none =>
    have := List.find?_eq_none.1 hfd j (List.mem_range.2 (lt_of_get hj))
    rw [getD_of hj, hd, hf] at this
    simp at this
  | some k =>
    have h1 := List.find?_some hfd
    have h2 := List.mem_range.1 (List.mem_of_find?_eq_some hfd)
    simp only [Bool.and_eq_true, beq_iff_eq] at h1
    have hk2 : l[k]? = some l[k] := List.getElem?_eq_getElem h2
    rw [getD_of hk2] at h1
    have := hk.uniq j k o l[k] s hj hk2 hd h1.2
    rw [this]
theorem tl_none {f : Nat → Bool} {s : Nat} (h : ∀ j o, l[j]? = some o → f j = true → o.dst ≠ some s) : tl l T vs f s = lk T s := by
  unfold tl
  cases hfd : (List.range l.length).find? (fun j => f j && (l.getD j default).dst == some s) with
  | none => rfl
  | some k =>
    have h1 := List.find?_some hfd
    have h2 := List.mem_range.1 (List.mem_of_find?_eq_some hfd)
    simp only [Bool.and_eq_true, beq_iff_eq] at h1
    have hk2 : l[k]? = some l[k] := List.getElem?_eq_getElem h2
    rw [getD_of hk2] at h1
    exact absurd h1.2 (h k l[k] hk2 h1.1)
theorem tl_congr (hk : DrawOk m l) {f g : Nat → Bool} {s : Nat} (h : ∀ j o, l[j]? = some o → o.dst = some s → f j = g j) : tl l T vs f s = tl l T vs g s := by
  by_cases hex : ∃ j o, l[j]? = some o ∧ f j = true ∧ o.dst = some s
  · obtain ⟨j, o, h1, h2, h3⟩ := hex
    rw [tl_some hk h1 h2 h3, tl_some hk h1 ((h j o h1 h3) ▸ h2) h3]
  · rw [tl_none (fun j o h1 h2 h3 => hex ⟨j, o, h1, h2, h3⟩), tl_none (fun j o h1 h2 h3 => hex ⟨j, o, h1, (h j o h1 h3).trans h2, h3⟩)]

theorem AQuiet.vals {ops : Array Oper} : ∀ {l' : List Oper} {T : Tm}, AQuiet P N ops H K l' T → ∃ (vs : Nat → V) (Tx : Nat → Tm), Tx 0 = T ∧ (∀ i o, l'[i]? = some o → dstOk N o.dst = true ∧ YJ P N ops o (Tx i) H (vs i) ∧ Tx (i + 1) = setT (Tx i) o.dst (vs i)) ∧ K (Tx l'.length)
  | [], T, h => ⟨fun _ => .top, fun _ => T, rfl, fun i o ho => by simp at ho, h⟩
  | o :: l', T, h => by
    obtain ⟨v, hd, hy, hn⟩ := h
    obtain ⟨vs, Tx, h0, h1, h2⟩ := AQuiet.vals hn
    refine ⟨fun i => match i with | 0 => v | i + 1 => vs i, fun i => match i with | 0 => T | i + 1 => Tx i, rfl, fun i x hx => ?_, h2⟩
    cases i with
    | zero => simp at hx; subst hx; exact ⟨hd, hy, h0⟩
    | succ i => simp at hx; exact h1 i x hx

theorem lk_Tx (hk : DrawOk m l) {Tx : Nat → Tm} {M : Nat} (hM : M ≤ l.length) (h0 : Tx 0 = T) (h1 : ∀ i o, i < M → l[i]? = some o → Tx (i + 1) = setT (Tx i) o.dst (vs i)) : ∀ i, i ≤ M → ∀ s, lk (Tx i) s = tl l T vs (fun j => decide (j < i)) s
  | 0, _, s => by rw [h0, tl_none (fun j o _ h => by simp at h)]
  | i + 1, hi, s => by
    have ho : l[i]? = some (l[i]'(by omega)) := List.getElem?_eq_getElem _
    rw [h1 i _ (by omega) ho]
    have ih := lk_Tx hk hM h0 h1 i (by omega) s
    by_cases hs : (l[i]'(by omega)).dst = some s
    · rw [hs, tl_some hk ho (by simp) hs]
      simp [setT, lk]
    · have e : lk (setT (Tx i) (l[i]'(by omega)).dst (vs i)) s = lk (Tx i) s := by
        cases hd : (l[i]'(by omega)).dst with
        | none => rfl
        | some d =>
          have hne : d ≠ s := fun e => hs (by rw [hd, e])
          have hb : Nat.beq d s = false := by
            cases h0 : Nat.beq d s with
            | false => rfl
            | true => exact absurd (Nat.eq_of_beq_eq_true h0) hne
          simp [setT, lk, hb]
      rw [e, ih]
      refine tl_congr hk fun j o hj hd => ?_
      have hne : j ≠ i := fun e => by
        subst e
        rw [ho] at hj
        cases hj
        exact hs hd
      simp; omega

theorem count_set : ∀ (l : List Bool) (i : Nat), l[i]? = some false → (l.set i true).count false + 1 = l.count false
  | [], i, h => by simp at h
  | b :: l, 0, h => by simp at h; subst h; simp
  | b :: l, i + 1, h => by
    simp at h
    have := count_set l i h
    cases b <;> simp <;> omega

/-- The state between two operations of a region that draws. -/
def SI (κ : Nat) (P : Program) (N : Nat) (H : List Blk) (l : List Oper) (T : Tm) (vs : Nat → V) (B : Base) (w0 : World) (I0 : Nat → Prop) (ρ0 : List Nat) (f : Nat → Bool) (a : Act) (w : World) : Prop :=
  ∃ I ρ, ExtW w0 I0 ρ0 w I ρ ∧ Inv P w I ρ H ∧ a.tmps.size = N ∧ (∀ s v, tl l T vs f s = some v → RelV P w I ρ v (a.tmps.getD s undef)) ∧ Marks κ B w I ρ a.defers

def fl (listed : Array Bool) (i : Nat) : Bool := listed.getD i false

theorem fl_set {listed : Array Bool} {i : Nat} (hi : i < listed.size) (j : Nat) : fl (listed.setIfInBounds i true) j = (decide (j = i) || fl listed j) := by
  unfold fl
  by_cases h : j = i
  · subst h; simp [hi]
  · simp [h, Ne.symm h]

theorem draw_tail (hk : DrawOk m l) {QX : Exit → Act → World → Prop} : ∀ (fuel k : Nat) (listed : Array Bool) (a : Act) (w : World), fuel + k = l.length → m ≤ k → listed.size = l.length → (∀ i, i < l.length → fl listed i = decide (i < k)) →
    wpListIn (Fr R) 0 P l.toArray QX (l.drop k) a w → wpAnyIn (Fr R) 0 P .any l.toArray QX fuel listed a w
  | 0, k, listed, a, w, hf, hm, hsz, hl, h => by
    have hk' : k = l.length := by omega
    subst hk'
    refine ⟨?_, by simpa [wpListIn] using h⟩
    refine List.eq_nil_iff_forall_not_mem.2 fun i hi => ?_
    obtain ⟨h1, o, ho, _⟩ := mem_ready.1 hi
    have hlt : i < l.length := lt_of_get (by simpa using ho)
    have h2 := hl i hlt
    unfold fl at h2
    simp [hsz, hlt] at h1 h2
    rw [h1] at h2; cases h2
  | fuel + 1, k, listed, a, w, hf, hm, hsz, hl, h => by
    have hlt : k < l.length := by omega
    have ho : l[k]? = some l[k] := List.getElem?_eq_getElem hlt
    have hr : k ∈ Region.ready .any l.toArray listed := by
      refine mem_ready.2 ⟨?_, l[k], by simpa using ho, fun e he hb => ?_⟩
      · have := hl k hlt
        unfold fl at this
        simp [hsz, hlt] at this ⊢
        exact this
      · have hlt2 := hk.back k _ ho e he hb
        have := hl e.on (by omega)
        unfold fl at this
        simpa [hlt2] using this
    refine ⟨(fun h0 => by rw [h0] at hr; cases hr), fun i hi => ?_⟩
    have hik : i = k := by
      obtain ⟨h1, o, ho', hall⟩ := mem_ready.1 hi
      have ho2 : l[i]? = some o := by simpa using ho'
      have hilt := lt_of_get ho2
      have h2 := hl i hilt
      unfold fl at h2
      simp [hsz, hilt] at h1 h2
      rw [h1] at h2
      have hki : k ≤ i := by simpa using h2.symm
      by_cases he : i = k
      · exact he
      · exfalso
        have hf := hk.tail (fun j => decide (j = i) || fl listed j) (fun j oj hj hfj e he hb => by
          simp only [Bool.or_eq_true, decide_eq_true_eq] at hfj ⊢
          rcases hfj with rfl | hfj
          · rw [ho2] at hj; cases hj
            exact .inr (hall e he hb)
          · have h3 := hl j (lt_of_get hj)
            rw [hfj] at h3
            have hjk : j < k := by simpa using h3.symm
            have := hk.back j _ hj e he hb
            exact .inr (by rw [hl e.on (by omega)]; simp; omega)) i (by omega) hilt (by simp) k (by omega)
        have h4 := hl k hlt
        simp [Ne.symm he, h4] at hf
    subst hik
    have hdrop : l.drop i = l[i] :: l.drop (i + 1) := List.drop_eq_getElem_cons hlt
    rw [hdrop] at h
    unfold wpOpIn
    have hoo : l.toArray[i]? = some l[i] := by simpa using ho
    simp only [hoo]
    have next : ∀ a w, wpListIn (Fr R) 0 P l.toArray QX (l.drop (i + 1)) a w → wpAnyIn (Fr R) 0 P .any l.toArray QX fuel (listed.setIfInBounds i true) a w := fun a w h => by
      refine draw_tail hk fuel (i + 1) _ a w (by omega) (by omega) (by simp [hsz]) (fun j hj => ?_) h
      rw [fl_set (by omega), hl j hj]
      by_cases e : j = i
      · subst e; simp
      · simp [e]; omega
    simp only [wpListIn] at h
    split
    · rename_i hw; rw [if_pos hw] at h; exact Oper.wpIn_mono next h
    · rename_i hw; rw [if_neg hw] at h; exact ⟨h.1, next _ _ h.2⟩

theorem draw_main (hk : DrawOk m l) (hm : m ≤ l.length) {B : Base} {w0 : World} {I0 : Nat → Prop} {ρ0 : List Nat} {QX : Exit → Act → World → Prop} {Tx : Nat → Tm} (h0 : Tx 0 = T)
    (h1 : ∀ i o, i < m → l[i]? = some o → dstOk N o.dst = true ∧ YJ P N l.toArray o (Tx i) H (vs i) ∧ Tx (i + 1) = setT (Tx i) o.dst (vs i))
    (hK : ∀ a w I ρ, ExtW w0 I0 ρ0 w I ρ → Inv P w I ρ H → TRel P w I ρ N (Tx m) a.tmps → Marks κ B w I ρ a.defers → wpListIn (Fr R) 0 P l.toArray QX (l.drop m) a w) :
    ∀ (fuel : Nat) (listed : Array Bool) (a : Act) (w : World), listed.toList.count false = fuel → listed.size = l.length → (∀ i o, l[i]? = some o → fl listed i = true → ∀ e ∈ o.after, Region.binds .any e = true → fl listed e.on = true) → (∀ i, m ≤ i → fl listed i = false) →
    SI κ P N H l T vs B w0 I0 ρ0 (fl listed) a w → wpAnyIn (Fr R) 0 P .any l.toArray QX fuel listed a w := by
  intro fuel
  have hlk := lk_Tx (vs := vs) hk hm h0 (fun i o hi ho => (h1 i o hi ho).2.2)
  have done : ∀ (fuel : Nat) (listed : Array Bool) (a : Act) (w : World), listed.toList.count false = fuel → listed.size = l.length → (∀ i, m ≤ i → fl listed i = false) → (∀ i, i < m → fl listed i = true) → SI κ P N H l T vs B w0 I0 ρ0 (fl listed) a w → wpAnyIn (Fr R) 0 P .any l.toArray QX fuel listed a w := by
    intro fuel listed a w hcnt hsz htl hall hsi
    obtain ⟨I, ρ, he, hi, hs, hrel, hmk⟩ := hsi
    have hfl : ∀ i, fl listed i = decide (i < m) := fun i => by
      by_cases h : i < m
      · rw [hall i h]; simp [h]
      · rw [htl i (by omega)]; simp [h]
    have hcount : fuel + m = l.length := by
      have gen : ∀ (bs : List Bool) (k : Nat), k ≤ bs.length → (∀ i b, bs[i]? = some b → b = decide (i < k)) → bs.count false + k = bs.length := by
        intro bs
        induction bs with
        | nil => intro k hk _; simp at hk; simp [hk]
        | cons b bs ih =>
          intro k hk hb
          have hb0 := hb 0 b rfl
          cases k with
          | zero =>
            have := ih 0 (by omega) (fun i c hc => by have := hb (i + 1) c (by simpa using hc); simpa using this)
            simp at hb0
            subst hb0
            simp at this ⊢
            omega
          | succ k =>
            have := ih k (by simpa using hk) (fun i c hc => by have := hb (i + 1) c (by simpa using hc); simpa using this)
            simp at hb0
            subst hb0
            simp at this ⊢
            omega
      have := gen listed.toList m (by simpa [hsz] using hm) (fun i b hb => by
        have := hfl i
        unfold fl at this
        simp at hb
        rw [← this]
        simp [hb])
      rw [hcnt] at this
      simpa [hsz] using this
    refine draw_tail hk fuel m listed a w hcount (Nat.le_refl _) hsz (fun i _ => hfl i) (hK a w I ρ he hi ⟨hs, fun s v hv => hrel s v ?_⟩ hmk)
    rw [← hv, hlk m (Nat.le_refl _)]
    exact tl_congr hk fun j o hj hd => hfl j
  induction fuel with
  | zero =>
    intro listed a w hcnt hsz hcl htl hsi
    refine done 0 listed a w hcnt hsz htl (fun i hi => ?_) hsi
    have hlt : i < listed.size := by omega
    have h2 := List.count_eq_zero.1 hcnt
    unfold fl
    cases h3 : listed[i] with
    | true => simp [hlt, h3]
    | false => exact absurd (by rw [← h3]; exact Array.mem_toList_iff.2 (Array.getElem_mem hlt)) h2
  | succ fuel ih =>
    intro listed a w hcnt hsz hcl htl hsi
    by_cases hall : ∀ i, i < m → fl listed i = true
    · exact done (fuel + 1) listed a w hcnt hsz htl hall hsi
    · obtain ⟨i0, hi0, hmin⟩ : ∃ i0, (i0 < m ∧ fl listed i0 = false) ∧ ∀ j, j < i0 → fl listed j = true := by
        have hex : ∃ i, i < m ∧ fl listed i = false := by
          refine Classical.byContradiction fun hno => hall fun i hi => ?_
          cases h : fl listed i with
          | true => rfl
          | false => exact absurd ⟨i, hi, h⟩ hno
        obtain ⟨k, ⟨h3, h4⟩, h5⟩ := exists_least _ hex
        refine ⟨k, ⟨h3, h4⟩, fun j hj => ?_⟩
        cases h : fl listed j with
        | true => rfl
        | false => have := h5 j ⟨by omega, h⟩; omega
      have ho0 : l[i0]? = some (l[i0]'(by omega)) := List.getElem?_eq_getElem _
      have hr0 : i0 ∈ Region.ready .any l.toArray listed := by
        refine mem_ready.2 ⟨?_, (l[i0]'(by omega)), by rw [List.getElem?_toArray]; exact ho0, fun e he hb => hmin e.on (hk.back i0 _ ho0 e he hb)⟩
        have := hi0.2
        unfold fl at this
        have hlt : i0 < listed.size := by omega
        simp [hlt] at this ⊢
        exact this
      refine ⟨(fun h => by rw [h] at hr0; cases hr0), fun i hi => ?_⟩
      obtain ⟨h3, o, ho', hev⟩ := mem_ready.1 hi
      have ho : l[i]? = some o := by simpa using ho'
      have hilt := lt_of_get ho
      have hcl' : ∀ j oj, l[j]? = some oj → (decide (j = i) || fl listed j) = true → ∀ e ∈ oj.after, Region.binds .any e = true → (decide (e.on = i) || fl listed e.on) = true := fun j oj hj hfj e he hb => by
        simp only [Bool.or_eq_true, decide_eq_true_eq] at hfj ⊢
        rcases hfj with rfl | hfj
        · rw [ho] at hj; cases hj
          exact .inr (hev e he hb)
        · exact .inr (hcl j oj hj hfj e he hb)
      have him : i < m := by
        rcases Nat.lt_or_ge i m with h | h
        · exact h
        · have := hk.tail (fun j => decide (j = i) || fl listed j) hcl' i h hilt (by simp) i0 (by omega)
          have hne : ¬ i0 = i := by omega
          simp [hne, hi0.2] at this
      have hnl : fl listed i = false := by
        have hlt : i < listed.size := by omega
        unfold fl
        simp [hlt] at h3 ⊢
        exact h3
      obtain ⟨hdst, hy, _⟩ := h1 i o him ho
      obtain ⟨I, ρ, he, hinv, hs, hrel, hmk⟩ := hsi
      have hlook : ∀ s v, lk (restr l.toArray o (Tx i)) s = some v → RelV P w I ρ v (a.tmps.getD s undef) := by
        intro s v hv
        unfold restr at hv
        rw [lk_filterMap] at hv
        split at hv
        · rename_i hs'
          rw [hlk i (by omega)] at hv
          refine hrel s v ?_
          rw [← hv]
          refine tl_congr hk fun j oj hj hd => ?_
          by_cases hji : j = i
          · subst hji; rw [hnl]; simp
          · obtain ⟨k1, k2⟩ := hk.look (fun j => decide (j = i) || fl listed j) hcl' i j o oj s ho hj hs' hd (Ne.symm hji)
            rcases Nat.lt_trichotomy j i with h | h | h
            · have := k1 h (by simp)
              simp [hji] at this
              simp [this, h]
            · exact absurd h hji
            · have hkf := hk.look (fl listed) hcl i j o oj s ho hj hs' hd (Ne.symm hji)
              cases hfj : fl listed j with
              | false => simp; omega
              | true => have := hkf.2 h hfj; rw [hnl] at this; cases this
        · cases hv
      have htr : TRel P w I ρ N (restr l.toArray o (Tx i)) a.tmps := ⟨hs, hlook⟩
      have next : ∀ u w' I' ρ', Ext w I ρ w' I' ρ' → Inv P w' I' ρ' H → RelV P w' I' ρ' (vs i) u → wpAnyIn (Fr R) 0 P .any l.toArray QX fuel (listed.setIfInBounds i true) (a.put o.dst u) w' := by
        intro u w' I' ρ' he' hinv' hu
        refine ih (listed.setIfInBounds i true) (a.put o.dst u) w' ?_ (by simp [hsz]) ?_ ?_ ?_
        · have hlt : i < listed.size := by omega
          have h5 : listed.toList[i]? = some false := by
            unfold fl at hnl
            simp [hlt] at hnl ⊢
            exact hnl
          have := count_set listed.toList i h5
          rw [Array.toList_setIfInBounds]
          omega
        · intro j oj hj hfj e hee hb
          rw [fl_set (by omega)] at hfj ⊢
          exact hcl' j oj hj hfj e hee hb
        · intro j hj
          rw [fl_set (by omega), htl j hj]
          have : ¬ j = i := by omega
          simp [this]
        · refine ⟨I', ρ', he.trans he'.w, hinv', by cases o.dst <;> simp [Act.put, hs], fun s v hv => ?_, (hmk.ext he').put⟩
          cases hd : o.dst with
          | none =>
            have e1 : tl l T vs (fl (listed.setIfInBounds i true)) s = tl l T vs (fl listed) s := tl_congr hk fun j oj hj hdj => by
              rw [fl_set (by omega)]
              have : j ≠ i := fun e => by
                subst e
                rw [ho] at hj; cases hj
                rw [hd] at hdj; cases hdj
              simp [this]
            rw [e1] at hv
            exact (hrel s v hv).ext he'
          | some d =>
            have hlt : d < N := by
              rw [hd] at hdst
              simpa [dstOk, Nat.blt, Nat.lt_iff_add_one_le] using hdst
            by_cases hsd : d = s
            · subst hsd
              have e1 : tl l T vs (fl (listed.setIfInBounds i true)) d = some (vs i) := tl_some hk ho (by rw [fl_set (by omega)]; simp) hd
              rw [e1] at hv
              cases hv
              have h6 : d < a.tmps.size := by rw [hs]; exact hlt
              simpa [Act.put, h6] using hu
            · have e1 : tl l T vs (fl (listed.setIfInBounds i true)) s = tl l T vs (fl listed) s := tl_congr hk fun j oj hj hdj => by
                rw [fl_set (by omega)]
                have : j ≠ i := fun e => by
                  subst e
                  rw [ho] at hj; cases hj
                  rw [hd] at hdj; cases hdj
                  exact hsd rfl
                simp [this]
              rw [e1] at hv
              have := (hrel s v hv).ext he'
              simpa [Act.put, hsd] using this
      unfold wpOpIn
      simp only [ho']
      rcases hy with ⟨hg, hop⟩ | ⟨j, want, s, c, x, v', hg, hsl, hsN, hb, hc, hv, hop⟩
      · simp only [Region.wanted, hg, if_true]
        exact hop R w I ρ a hinv htr _ _ next
      · have hyl := yielded_of hsl htr hsN hb hc
        simp only [Region.wanted, hg, hyl]
        cases c with
        | true =>
          simp only [if_true]
          obtain ⟨T2, hsub, hop⟩ := hop rfl
          exact hop R w I ρ a hinv (htr.subG hsub) _ _ fun u w' I' ρ' he' hi' hu => next u w' I' ρ' he' hi' (by rw [hv]; exact ⟨fun _ => hu, (fun h => by cases h)⟩)
        | false =>
          simp only [Bool.false_eq_true, if_false]
          exact ⟨about_wide, next undef w I ρ (Ext.refl _ _ _) hinv (by rw [hv]; exact ⟨(fun h => by cases h), fun _ => rfl⟩)⟩

/-- **A region that draws its order**, by one pass in the order of the text: the first m operations leave the own blocks alone; the others are forced to come behind them, in their order. -/
theorem AWp.regionDraw {id : Nat} (m : Nat) (hmx : P.follows .mixedOrders = true) (hk : drawOk m l = true) (hm : m ≤ l.length) (h : AQuiet P N l.toArray H (fun T' => AList P R N κ l.toArray (l.drop m) Q T' H) (l.take m) T) : AWp P R N κ (.region id l.toArray true) Q T H := by
  intro B w I ρ a hi ht hmk
  obtain ⟨vs, Tx, h0, h1, h2⟩ := AQuiet.vals h
  have hlen : (l.take m).length = m := by simp; omega
  rw [hlen] at h2
  refine wpIn_region_any hmx ?_
  have hi' : Inv P w.drew I ρ H := hi.drew
  refine draw_main (κ := κ) (DrawOk.of hk) hm (B := B) (w0 := w) (I0 := I) (ρ0 := ρ) h0 (fun i o him ho => h1 i o (by rw [List.getElem?_take, if_pos him]; exact ho)) ?_ _ _ a w.drew (by simp) (by simp) ?_ ?_ ?_
  · intro a' w' I' ρ' he hi2 ht2 hm2
    exact h2 _ B w' I' ρ' a' hi2 ht2 hm2 fun e a2 w2 q => QC.ext he q
  · intro i o ho hf
    have hlt := lt_of_get ho
    simp [fl, hlt] at hf
  · intro i _
    unfold fl
    by_cases hlt : i < l.length <;> simp [hlt]
  · refine ⟨I, ρ, Ext.drew.w, hi', ht.size, fun s v hv => ?_, hmk.ext Ext.drew⟩
    rw [tl_none (fun j o hj hf => by
      unfold fl at hf
      by_cases hlt : j < l.length <;> simp [hlt] at hf)] at hv
    exact (ht.at_ s v hv).ext (Ext.drew (w := w) (I := I) (ρ := ρ))
end
end
end Go.AF
end

/-! ## Short forms of the rules, own blocks that become immutable, slices that are built, cut, made and appended to. -/
section
set_option linter.unusedVariables false
set_option linter.unusedSimpArgs false
set_option linter.unnecessarySimpa false
namespace Go.AF
section
variable {P : Program} {R : Option Nat} {N κ : Nat} {Q Q' : Post} {T T' : Tm} {H H' : List Blk} {o : Oper} {ops : Array Oper} {rest : List Oper}

/-! ### Short forms -/
theorem AList.c (d : Nat) {v : V} (hd : o.dst = some d) (hN : dstOk N (some d) = true) (hg : o.guard = none) (hop : OpJ P N o T H v H') (next : AList P R N κ ops rest Q ((d, v) :: T) H') : AList P R N κ ops (o :: rest) Q T H :=
  AList.cons hg (by rw [hd]; exact hN) hop (by rw [hd]; exact next)
theorem AList.c0 {v : V} (hd : o.dst = none) (hg : o.guard = none) (hop : OpJ P N o T H v H') (next : AList P R N κ ops rest Q T H') : AList P R N κ ops (o :: rest) Q T H :=
  AList.cons hg (by rw [hd]; rfl) hop (by rw [hd]; exact next)
theorem AList.g (d s : Nat) {j : Nat} {want c : Bool} {x v : V} (hd : o.dst = some d) (hN : dstOk N (some d) = true) (hg : o.guard = some (j, want)) (hs : gslot ops j = some s) (hsN : dstOk N (some s) = true)
    (hb : lk T s = some x) (hc : gcond want x = some c) (T2 : Tm) (h2 : c = true → subG T2 T) (hop : c = true → OpJ P N o T2 H v H) (next : AList P R N κ ops rest Q ((d, .opt c v) :: T) H) : AList P R N κ ops (o :: rest) Q T H :=
  AList.guard hg hs (by rw [hd]; exact hN) hsN hb hc T2 h2 hop (by rw [hd]; exact next)
theorem i64ok {n : Int} (h : -9223372036854775808 ≤ n ∧ n ≤ 9223372036854775807) : IntKind.i64.wrap n = n := by rw [IntKind.wrap_i64]; omega
theorem u8ok {n : Int} (h : 0 ≤ n ∧ n ≤ 255) : IntKind.u8.wrap n = n := by rw [IntKind.wrap_u8]; omega
theorem i32ok {n : Int} (h : -2147483648 ≤ n ∧ n ≤ 2147483647) : IntKind.i32.wrap n = n := by rw [IntKind.wrap_i32]; omega

/-- The end of a pure function. -/
def Fin (P : Program) (N : Nat) (fn : Func) (r : PV) : Post := fun x T H => (x = .normal ∨ x = .ret) ∧ resV P N fn T H (.p r)
theorem Pure.start {f : FuncId} {fn : Func} {c : Code} {args : List PV} {r : PV} (hf : P.funcs[f]? = some fn) (hb : fn.body = some c) (hN : fn.ntmps = N) (hn : args.length ≤ N) (h : AWp P none N 0 c (Fin P N fn r) (slotsAt 0 (args.map .p)) []) : Pure P f args r := by
  subst hN
  exact Pure.of_body hf hb hn h
theorem Fin.one {fn : Func} {q : ResultVar} {r : PV} (h : fn.results = #[q]) (hr : resOne P T H q (.p r)) : Fin P N fn r .ret T H := ⟨.inr rfl, resV.one h hr⟩
theorem allP_map (xs : List PV) : allP (xs.map .p) = some xs := by
  induction xs with
  | nil => rfl
  | cons x xs ih => simp [allP, ih]
theorem Fin.many {fn : Func} {r1 r2 : ResultVar} {rs : List ResultVar} {vs : List V} {xs : List PV} (h : fn.results = (r1 :: r2 :: rs).toArray) (hr : ress P T H (r1 :: r2 :: rs) vs) (hv : vs = xs.map .p) : Fin P N fn (.tuple xs) .ret T H := by
  refine ⟨.inr rfl, ?_⟩
  have := resV.many (N := N) h hr
  have e : tupOf vs = .p (.tuple xs) := by
    subst hv
    simp [tupOf, allP_map]
  rw [e] at this
  exact this

/-- The end of a function that works on own blocks. -/
def FinO (P : Program) (N : Nat) (fn : Func) (Qr : V → List Blk → Prop) : Post := fun x T H => (x = .normal ∨ x = .ret) ∧ ∃ v, resV P N fn T H v ∧ Qr v H
theorem ACalls.start {f : FuncId} {fn : Func} {c : Code} {args : List V} {Qr : V → List Blk → Prop} (hf : P.funcs[f]? = some fn) (hb : fn.body = some c) (hN : fn.ntmps = N) (hn : args.length ≤ N) (h : AWp P none N H.length c (FinO P N fn Qr) (slotsAt 0 args) H) : ACalls P f args H Qr := by
  subst hN
  exact ACalls.of_body hf hb hn h

/-! ### Own blocks that nobody will write any more -/
mutual
def frzV (i : Nat) (xs : List PV) : V → V
  | .p x => .p x
  | .ptr j off => if j = i then .p (.ip xs off) else .ptr j off
  | .row j len => if j = i then .p (.is xs len) else .row j len
  | .sl j off len => if j = i then .p (.is ((xs.drop off)) len) else .sl j off len
  | .map j => .map j
  | .func fn fi ca => match allP (frzL i xs fi), allP (frzL i xs ca) with
    | some a, some b => .p (.func fn a b)
    | _, _ => .func fn (frzL i xs fi) (frzL i xs ca)
  | .iface t v => match frzV i xs v with
    | .p x => .p (.iface t x)
    | y => .iface t y
  | .agg cs => match allP (frzL i xs cs) with
    | some a => .p (.agg a)
    | none => .agg (frzL i xs cs)
  | .tuple cs => match allP (frzL i xs cs) with
    | some a => .p (.tuple a)
    | none => .tuple (frzL i xs cs)
  | .opt g v => .opt g (frzV i xs v)
  | .raw a n c => .raw a n c
  | .z0 => .z0
  | .top => .top
def frzL (i : Nat) (xs : List PV) : List V → List V
  | [] => []
  | v :: vs => frzV i xs v :: frzL i xs vs
end

mutual
theorem frzV_rel {w : World} {I : Nat → Prop} {ρ : List Nat} {i b : Nat} {xs : List PV} (hρ : ρ[i]? = some b) (hI : I b) (hx : RelAt w I xs b 0) : ∀ (v : V) (u : Value), RelV P w I ρ v u → RelV P w I ρ (frzV i xs v) u
  | .p x, u, h => by simpa [frzV] using h
  | .ptr j off, u, h => by
    simp only [frzV]
    split
    · rename_i e; subst e
      obtain ⟨b', hb, hu⟩ := h
      rw [hρ] at hb; cases hb
      exact ⟨b, 0, hI, by simpa using hu, hx⟩
    · exact h
  | .row j len, u, h => by
    simp only [frzV]
    split
    · rename_i e; subst e
      obtain ⟨b', e', cap, hb, hu, _, hl⟩ := h
      rw [hρ] at hb; cases hb
      exact .inr ⟨b, 0, cap, fun _ => hI, hl, hu, hx⟩
    · exact h
  | .sl j off len, u, h => by
    simp only [frzV]
    split
    · rename_i e; subst e
      obtain ⟨b', cap, hb, hu, hl⟩ := h
      rw [hρ] at hb; cases hb
      exact .inr ⟨b, off, cap, fun _ => hI, hl, hu, by simpa using RelAt.drop off hx⟩
    · exact h
  | .map j, u, h => by simpa [frzV] using h
  | .func fn fi ca, u, h => by
    obtain ⟨us, vs, hu, h1, h2⟩ := h
    have r1 := frzL_rel hρ hI hx fi _ h1
    have r2 := frzL_rel hρ hI hx ca _ h2
    simp only [frzV]
    split
    · rename_i a c e1 e2
      rw [allP_some e1] at r1
      rw [allP_some e2] at r2
      exact ⟨us, vs, hu, RelVL.pure.1 r1, RelVL.pure.1 r2⟩
    · exact ⟨us, vs, hu, r1, r2⟩
  | .iface t v, u, h => by
    obtain ⟨x, hu, h1⟩ := h
    have r := frzV_rel hρ hI hx v x h1
    simp only [frzV]
    split
    · rename_i y e; rw [e] at r; exact ⟨x, hu, r⟩
    · exact ⟨x, hu, r⟩
  | .agg cs, u, h => by
    obtain ⟨us, hu, h1⟩ := h
    have r := frzL_rel hρ hI hx cs _ h1
    simp only [frzV]
    split
    · rename_i a e; rw [allP_some e] at r; exact ⟨us, hu, RelVL.pure.1 r⟩
    · exact ⟨us, hu, r⟩
  | .tuple cs, u, h => by
    obtain ⟨us, hu, h1⟩ := h
    have r := frzL_rel hρ hI hx cs _ h1
    simp only [frzV]
    split
    · rename_i a e; rw [allP_some e] at r; exact ⟨us, hu, RelVL.pure.1 r⟩
    · exact ⟨us, hu, r⟩
  | .opt g v, u, h => ⟨fun hg => frzV_rel hρ hI hx v u (h.1 hg), h.2⟩
  | .raw _ _ _, u, h => by simpa [frzV] using h
  | .z0, u, h => by simpa [frzV] using h
  | .top, _, _ => by simp [frzV, RelV]
theorem frzL_rel {w : World} {I : Nat → Prop} {ρ : List Nat} {i b : Nat} {xs : List PV} (hρ : ρ[i]? = some b) (hI : I b) (hx : RelAt w I xs b 0) : ∀ (vs : List V) (us : List Value), RelVL P w I ρ vs us → RelVL P w I ρ (frzL i xs vs) us
  | [], us, h => by simpa [frzL] using h
  | v :: vs, us, h => by
    obtain ⟨u, us', hu, h1, h2⟩ := h
    exact ⟨u, us', hu, frzV_rel hρ hI hx v u h1, frzL_rel hρ hI hx vs us' h2⟩
end
def frzT (i : Nat) (xs : List PV) : Tm → Tm
  | [] => []
  | (s, v) :: r => (s, frzV i xs v) :: frzT i xs r
theorem lk_frzT {i : Nat} {xs : List PV} : ∀ (T : Tm) (s : Nat), lk (frzT i xs T) s = (lk T s).map (frzV i xs)
  | [], s => rfl
  | (a, v) :: r, s => by
    simp only [frzT, lk]
    cases Nat.beq a s with
    | true => rfl
    | false => exact lk_frzT r s

theorem RelAt.of_list {w : World} {I : Nat → Prop} {b : Nat} : ∀ (xs : List PV) (us : List Value) (k : Nat), RelL w I xs us → (∀ j u, us[j]? = some u → w.cell? ⟨b, k + j, none⟩ = some u) → RelAt w I xs b k
  | [], _, _, _, _ => by simp [RelAt]
  | x :: xs, us, k, h, hc => by
    obtain ⟨u, us', rfl, h1, h2⟩ := h
    exact ⟨⟨u, by simpa using hc 0 u rfl, h1⟩, RelAt.of_list xs us' (k + 1) h2 fun j v hj => by have := hc (j + 1) v (by simpa using hj); rwa [show k + (j + 1) = k + 1 + j by omega] at this⟩

theorem frz_step {w : World} {I : Nat → Prop} {ρ : List Nat} {i : Nat} {xs : List PV} {tmps : Array Value} (hi : Inv P w I ρ H) (hc : blkCells H[i]? = some (xs.map .p)) (ht : TRel P w I ρ N T tmps) :
    ∃ I', Ext w I ρ w I' ρ ∧ Inv P w I' ρ (H.set i .dead) ∧ TRel P w I' ρ N (frzT i xs T) tmps := by
  obtain ⟨b, arr, e, hρ, hw, hl, hr⟩ := own_cells hi hc
  have hH : ∃ blk, H[i]? = some blk ∧ blk.live = true := by
    unfold blkCells at hc
    split at hc
    · rename_i h; exact ⟨_, h, rfl⟩
    · rename_i h; exact ⟨_, h, rfl⟩
    · cases hc
  obtain ⟨blk, hH, hlive⟩ := hH
  have hE := Ext.freeze hi hρ hH hlive (fun _ _ _ h => by rw [hw] at h; cases h; exact .inl rfl)
  refine ⟨_, hE, Inv.freeze hi hρ hH hlive, ht.size, fun s v hv => ?_⟩
  rw [lk_frzT, Option.map_eq_some_iff] at hv
  obtain ⟨v0, h1, rfl⟩ := hv
  have hx : RelAt w (fun k => I k ∨ k = b) xs b 0 := by
    have h2 := RelVL.pure.1 (RelVL.ext hE hr)
    refine RelAt.of_list xs _ 0 h2 fun j u hj => ?_
    rw [List.getElem?_take] at hj
    split at hj
    · simp only [World.cell?, hw]
      simpa using hj
    · cases hj
  exact frzV_rel hρ (.inr rfl) hx v0 _ ((ht.at_ s v0 h1).ext hE)

/-- Own block i becomes immutable. -/
theorem AList.freeze (i : Nat) {xs : List PV} {l : List Oper} {vs : List V} (hc : blkCells H[i]? = some vs) (hp : allP vs = some xs) (h : AList P R N κ ops l Q (frzT i xs T) (H.set i .dead)) : AList P R N κ ops l Q T H := by
  intro QX B w I ρ a hi ht hm hq
  rw [allP_some hp] at hc
  obtain ⟨I', h1, h2, h3⟩ := frz_step hi hc ht
  exact h QX B w I' ρ a h2 h3 (hm.ext h1) fun e a2 w2 q => hq e a2 w2 (QC.ext h1.w q)
theorem AWp.freeze (i : Nat) {xs : List PV} {c : Code} {vs : List V} (hc : blkCells H[i]? = some vs) (hp : allP vs = some xs) (h : AWp P R N κ c Q (frzT i xs T) (H.set i .dead)) : AWp P R N κ c Q T H := by
  intro B w I ρ a hi ht hm
  rw [allP_some hp] at hc
  obtain ⟨I', h1, h2, h3⟩ := frz_step hi hc ht
  exact wpIn_mono (h B w I' ρ a h2 h3 (hm.ext h1)) fun _ _ _ q => QC.ext h1.w q

/-! ### An element of a slice, as a window of its own -/
theorem flat_win {α β : Type} {f : α → List β} {sz : Nat} (hf : ∀ x, (f x).length = sz) : ∀ (xs : List α) (k : Nat) (hk : k < xs.length), ((xs.flatMap f).drop (k * sz)).take sz = f xs[k]
  | x :: xs, 0, _ => by
    simp only [Nat.zero_mul, List.drop_zero, List.flatMap_cons, List.getElem_cons_zero]
    rw [List.take_append_of_le_length (by rw [hf]; exact Nat.le_refl _)]
    rw [← hf x, List.take_length]
  | x :: xs, k + 1, hk => by
    have ih := flat_win hf xs k (by simpa using hk)
    simp only [List.flatMap_cons, List.getElem_cons_succ]
    rw [List.drop_append, List.drop_of_length_le (by rw [hf, Nat.add_mul, Nat.one_mul]; omega), List.nil_append, hf]
    rw [show (k + 1) * sz - sz = k * sz by rw [Nat.add_mul, Nat.one_mul]; omega]
    exact ih

theorem OpJ.indexWin {x y : Operand} {t : TypeId} {kd : IntKind} {sz len k : Nat} {cs win : List PV} (ho : o.op = .indexAddr t x y) (hx : ev T x = some (.p (.is cs len))) (hy : ev T y = some (.p (.int kd (k : Int)))) (ht : isSl P t = true) (he : elI P t = some sz)
    (hk : k < len) (hw : (cs.drop (k * sz)).take sz = win) (hn : cs ≠ []) : OpJ P N o T H (.p (.ip win 0)) H :=
  OpJ.of_pure (by simp [ho]) fun w I ρ a hi hT => by
    have hn' := ev_int hT hy
    cases hu : P.underlying t with
    | none => simp [isSl, hu] at ht
    | some d =>
      cases d <;> simp [isSl, hu] at ht
      rename_i e
      simp only [elI, hu, Option.map_eq_some_iff] at he
      obtain ⟨⟨b, m⟩, htm, rfl⟩ := he
      rcases hT.ev hx with ⟨_, hz⟩ | ⟨blk, off, cap, hb, hle, hsl, hat⟩
      · omega
      · refine ⟨.pointer (some ⟨blk, off + k * m, none⟩), ?_, blk, off + k * m, hb hn, rfl, ?_⟩
        · have hlt' : (k : Int) < (len : Int) := by omega
          have h0 : (0 : Int) ≤ k := by omega
          simp [execOp, ho, Instr.indexAt, hn', run_asIntOf, hsl, run_underlying hu, h0, hlt', run_sizeOf' htm, add_none]
        · rw [← hw]
          exact RelAt.take m (RelAt.drop _ hat)
/-- The same at a slice of whatever elements, each of sz cells. -/
theorem OpJ.indexEl {α : Type} {x y : Operand} {t : TypeId} {kd : IntKind} {sz len k : Nat} {xs : List α} {f : α → List PV} (ho : o.op = .indexAddr t x y) (hx : ev T x = some (.p (.is (xs.flatMap f) len))) (hy : ev T y = some (.p (.int kd (k : Int)))) (ht : isSl P t = true)
    (he : elI P t = some sz) (hl : len = xs.length) (hf : ∀ x, (f x).length = sz) (h0 : 0 < sz) (hk : k < xs.length) : OpJ P N o T H (.p (.ip (f xs[k]) 0)) H :=
  OpJ.indexWin ho hx hy ht he (hl ▸ hk) (flat_win hf xs k hk) (by
    intro hn
    have h1 : (xs.flatMap f).length = 0 := by rw [hn]; rfl
    have h2 := flat_win hf xs k hk
    have h3 := hf xs[k]
    rw [← h2, hn] at h3
    simp at h3
    omega)

/-! ### Slices that are built -/
theorem range_mod {α : Type} [Inhabited α] (z : List α) (hz : 0 < z.length) : ∀ n : Nat, (List.range (n * z.length)).map (fun i => z[i % z.length]!) = (List.replicate n z).flatten
  | 0 => by simp
  | n + 1 => by
    rw [Nat.add_mul, Nat.one_mul, List.range_add, List.map_append, range_mod z hz n, List.replicate_succ', List.flatten_append]
    congr 1
    simp only [List.map_map, List.flatten_cons, List.flatten_nil, List.append_nil]
    apply List.ext_getElem
    · simp
    · intro i h1 h2
      simp at h1
      have : (n * z.length + i) % z.length = i := by
        rw [Nat.add_comm, Nat.add_mul_mod_self_right, Nat.mod_eq_of_lt h1]
      simp [this, h1]

theorem RelL.append {w : World} {I : Nat → Prop} : ∀ {xs ys : List PV} {us vs : List Value}, RelL w I xs us → RelL w I ys vs → RelL w I (xs ++ ys) (us ++ vs)
  | [], ys, us, vs, h, k => by simp [RelL] at h; subst h; exact k
  | x :: xs, ys, us, vs, h, k => by
    obtain ⟨u, us', rfl, h1, h2⟩ := h
    exact ⟨u, us' ++ vs, rfl, h1, RelL.append h2 k⟩
theorem RelL.repl {w : World} {I : Nat → Prop} {z : List PV} {us : List Value} (h : RelL w I z us) : ∀ n : Nat, RelL w I (List.replicate n z).flatten (List.replicate n us).flatten
  | 0 => by simp [RelL]
  | n + 1 => by
    simp only [List.replicate_succ, List.flatten_cons]
    exact RelL.append h (RelL.repl h n)
theorem RelL.length {w : World} {I : Nat → Prop} : ∀ {xs : List PV} {us : List Value}, RelL w I xs us → us.length = xs.length
  | [], us, h => by simp [RelL] at h; simp [h]
  | x :: xs, us, h => by
    obtain ⟨u, us', rfl, _, h2⟩ := h
    simp [RelL.length h2]

/-- The zero cells of a slice type's element, and its size. -/
def slI (P : Program) (t : TypeId) : Option (TypeId × List PV) :=
  match P.underlying t with
  | some (.slice e) => match zeroI P e, tyI P e with
    | some z, some (_, n) => if (cellsP z).length = n ∧ 0 < n ∧ cellsOk (.p z) = true then some (e, cellsP z) else none
    | _, _ => none
  | _ => none
theorem slI_some {t : TypeId} {e : TypeId} {z : List PV} (h : slI P t = some (e, z)) : P.underlying t = some (.slice e) ∧ (∃ b, tyI P e = some (b, z.length)) ∧ 0 < z.length ∧ ∀ w, ∃ u : Value, (zeroValue e).run P w = .ok u w ∧ ∀ I, RelL w I z u.cells.toList := by
  unfold slI at h
  split at h
  · rename_i e' hu
    split at h
    · rename_i z' b n hz ht
      split at h
      · rename_i hc
        simp at h
        obtain ⟨rfl, rfl⟩ := h
        refine ⟨hu, ⟨b, by rw [hc.1]; exact ht⟩, by rw [hc.1]; exact hc.2.1, fun w => ?_⟩
        obtain ⟨u, h1, h2⟩ := run_zero hz w
        exact ⟨u, h1, fun I => RelVL.pure.1 (cells_rel (P := P) (ρ := []) (v := .p z') (h2 I) hc.2.2)⟩
      · cases h
    · cases h
  · cases h

theorem run_buildSlice {w : World} {I : Nat → Prop} {ρ : List Nat} {a : Act} {t e : TypeId} {len : Nat} {parts : Array (Nat × Operand)} {z : List PV} {vs : List (Nat × V)} {r : List V} (hs : slI P t = some (e, z)) (hlen : len * z.length ≤ 16777216) (hT : TRel P w I ρ N T a.tmps) (hv : evParts T parts.toList = some vs)
    (hr : abuild ((List.range len).map fun i => (i * z.length, z.length)) ((List.replicate len z).flatten.map .p) vs = some r) :
    ∃ arr : Array Value, RelVL P w I ρ r arr.toList ∧ arr.size = len * z.length ∧ (Instr.buildSlice t len (parts.map fun (x : Nat × Operand) => (x.1, a.eval x.2))).run P w = .ok (.slice (some ⟨w.heap.size, 0, none⟩) len len) (w.alloc (.cells arr e)) := by
  obtain ⟨hu, ⟨b, ht⟩, hz0, hz⟩ := slI_some hs
  obtain ⟨hm, hrel⟩ := evParts_rel hT hv
  obtain ⟨u, h1, h2⟩ := hz w
  have h3 := h2 I
  have h4 := RelL.length h3
  have hcells : ∀ arr0 : Array Value, arr0.toList = (List.replicate len u.cells.toList).flatten → ∃ arr', Instr.fill (fun i => some (i * z.length, z.length)) arr0 (parts.toList.map fun x => (x.1, a.eval x.2)) = some arr' ∧ RelVL P w I ρ r arr'.toList := by
    intro arr0 h0
    refine fill_rel (ps := (List.range len).map fun i => (i * z.length, z.length)) (fun i x h => ?_) vs _ _ arr0 r hm hrel ?_ hr
    · simp [List.getElem?_map, Option.map_eq_some_iff] at h
      obtain ⟨a', ha, rfl⟩ := h
      rw [List.getElem?_range] at ha
      · simp at ha; subst ha; rfl
      · rcases Nat.lt_or_ge i len with h' | h'
        · exact h'
        · rw [List.getElem?_eq_none (by simpa using h')] at ha; cases ha
    · rw [h0]
      exact RelVL.pure.2 (RelL.repl h3 len)
  have hrl : r.length = len * z.length := by
    have gen : ∀ (vs : List (Nat × V)) (cs r : List V) (ps : List (Nat × Nat)), abuild ps cs vs = some r → r.length = cs.length := by
      intro vs
      induction vs with
      | nil => intro cs r ps h; simp [abuild] at h; rw [h]
      | cons x vs ih =>
        intro cs r ps h
        obtain ⟨i, v⟩ := x
        simp only [abuild] at h
        split at h
        · cases h
        · split at h
          · have := ih _ _ _ h; rw [this, setAt_length]
          · cases h
    rw [gen _ _ _ _ hr]
    simp
  have hnot : ¬ (len * z.length > 2 ^ 24) := by
    have : (2 : Nat) ^ 24 = 16777216 := by decide
    omega
  by_cases hl0 : len * z.length = 0
  · have hlen0 : len = 0 := by
      rcases Nat.mul_eq_zero.1 hl0 with h | h
      · exact h
      · omega
    subst hlen0
    obtain ⟨arr', h5, h6⟩ := hcells #[] (by simp)
    refine ⟨arr', h6, ?_, ?_⟩
    · have := RelVL.length h6; rw [hrl] at this; simpa using this
    · simp only [Instr.buildSlice, Sem.run_bind, run_underlying hu, Result.andThen, run_sizeOf' ht]
      simp [newRow, newObj, Sem.run]
      simp only [Array.size, List.map_map] at h5 ⊢
      rw [show (#[] : Array Value) = Array.map (fun (x : Nat) => (#[] : Array Value)[x % 0]!) (Array.range 0) by simp] at h5
      simp at h5
      simp [h5]
      rfl
  · obtain ⟨arr', h5, h6⟩ := hcells ((Array.range (len * z.length)).map (u.cells[· % u.cells.size]!)) (by
      have h7 : u.cells.size = z.length := by simpa using h4
      have := range_mod u.cells.toList (by rw [h4]; exact hz0) len
      rw [← this]
      simp only [Array.toList_map, Array.toList_range, Array.length_toList, h7]
      apply List.map_congr_left
      intro i _
      have hlt : i % z.length < u.cells.size := by rw [h7]; exact Nat.mod_lt _ hz0
      simp [hlt])
    refine ⟨arr', h6, ?_, ?_⟩
    · have := RelVL.length h6; rw [hrl] at this; simpa using this
    · have e1 : ((parts.map fun (x : Nat × Operand) => (x.1, a.eval x.2)).toList) = parts.toList.map fun x => (x.1, a.eval x.2) := by simp
      simp only [Instr.buildSlice, Sem.run_bind, run_underlying hu, Result.andThen, run_sizeOf' ht]
      rw [if_neg (by simpa using hnot)]
      simp only [Sem.run_pure, Result.andThen, hl0, if_false, Sem.run_bind, h1, e1, h5]
      simp [newRow, newObj, Sem.run]
end
end Go.AF
end

/-! ## Slices that are built, cut, appended to, made and copied, over abstract states. -/
section
set_option linter.unusedVariables false
set_option linter.unusedSimpArgs false
set_option linter.unnecessarySimpa false
namespace Go.AF
section
variable {P : Program} {R : Option Nat} {N κ : Nat} {Q Q' : Post} {T T' : Tm} {H H' : List Blk} {o : Oper} {ops : Array Oper} {rest : List Oper}

theorem RelVL.ofAlloc {w : World} {I : Nat → Prop} {ρ : List Nat} (hi : Inv P w I ρ H) {vs : List V} {us : List Value} (ob : Obj) (ho : ∀ arr e fr, ob = .cells arr e fr → fr = (0, 0)) (h : RelVL P w I ρ vs us) : RelVL P (w.alloc ob) (fun b => I b ∨ b = w.heap.size) ρ vs us := RelVL.ext (Ext.allocImm hi ob ho) h

theorem is_new {w : World} {I : Nat → Prop} {ρ : List Nat} (hi : Inv P w I ρ H) {xs : List PV} {arr : Array Value} {e : TypeId} {len cap : Nat} (h : RelVL P w I ρ (xs.map .p) (arr.toList.take xs.length)) (hl : xs.length ≤ arr.size) (hc : len ≤ cap) :
    Rel (w.alloc (.cells arr e)) (fun b => I b ∨ b = w.heap.size) (.is xs len) (.slice (some ⟨w.heap.size, 0, none⟩) len cap) := by
  have h2 := RelVL.pure.1 (RelVL.ofAlloc hi (.cells arr e) (fun _ _ _ h => by cases h; rfl) h)
  refine .inr ⟨w.heap.size, 0, cap, fun _ => .inr rfl, hc, rfl, RelAt.of_list xs _ 0 h2 fun j u hj => ?_⟩
  rw [List.getElem?_take] at hj
  split at hj
  · rw [World.cell?_alloc_new]
    simpa using hj
  · cases hj

theorem OpJ.buildImm {t e : TypeId} {len : Nat} {parts : Array (Nat × Operand)} {z : List PV} {vs : List (Nat × V)} {r : List V} {xs : List PV} (ho : o.op = .buildSlice t len parts) (hs : slI P t = some (e, z)) (hlen : len * z.length ≤ 16777216) (hv : evParts T parts.toList = some vs)
    (hr : abuild ((List.range len).map fun i => (i * z.length, z.length)) ((List.replicate len z).flatten.map .p) vs = some r) (hp : allP r = some xs) : OpJ P N o T H (.p (.is xs len)) H :=
  OpJ.of_run (by simp [ho]) fun w I ρ a hi hT => by
    obtain ⟨arr, h1, h2, h3⟩ := run_buildSlice (ρ := ρ) hs hlen hT hv hr
    rw [allP_some hp] at h1
    have hl := RelVL.length h1
    simp at hl
    refine ⟨_, _, _, ρ, .inl (by simp only [execOp, ho, Sem.run_bind]; rw [show (Array.map (fun (x : Nat × Operand) => match x with | (i, x) => (i, a.eval x)) parts) = parts.map fun (x : Nat × Operand) => (x.1, a.eval x.2) from rfl, h3]; rfl), Ext.allocImm hi _ (fun _ _ _ h => by cases h; rfl), Inv.allocImm hi _ (fun _ _ _ h => by cases h; rfl), ?_⟩
    exact is_new hi (by rw [← hl, ← Array.length_toList, List.take_length]; exact h1) (by omega) (Nat.le_refl _)

theorem OpJ.buildOwn {t e : TypeId} {len : Nat} {parts : Array (Nat × Operand)} {z : List PV} {vs : List (Nat × V)} {r : List V} (ho : o.op = .buildSlice t len parts) (hs : slI P t = some (e, z)) (hlen : len * z.length ≤ 16777216) (hv : evParts T parts.toList = some vs)
    (hr : abuild ((List.range len).map fun i => (i * z.length, z.length)) ((List.replicate len z).flatten.map .p) vs = some r) : OpJ P N o T H (.row H.length len) (H ++ [.row r e]) :=
  OpJ.of_run (by simp [ho]) fun w I ρ a hi hT => by
    obtain ⟨arr, h1, h2, h3⟩ := run_buildSlice (ρ := ρ) hs hlen hT hv hr
    obtain ⟨hu, ⟨b, ht⟩, hz0, hz⟩ := slI_some hs
    have hE : Ext w I ρ (w.alloc (.cells arr e)) I (ρ ++ [w.heap.size]) := Ext.allocOwn hi _
    have hl := RelVL.length h1
    simp at hl
    refine ⟨_, _, _, _, .inl (by simp only [execOp, ho, Sem.run_bind]; rw [show (Array.map (fun (x : Nat × Operand) => match x with | (i, x) => (i, a.eval x)) parts) = parts.map fun (x : Nat × Operand) => (x.1, a.eval x.2) from rfl, h3]; rfl), hE, Inv.allocOwn hi _ ⟨arr, heap_alloc_new w _, by omega, ?_⟩, ?_⟩
    · rw [← hl, List.take_of_length_le (by simp)]
      exact RelVL.ext hE h1
    · refine ⟨w.heap.size, e, len, by rw [← hi.len]; simp, rfl, ?_, Nat.le_refl _⟩
      obtain ⟨d, i, _, h5, _, h6⟩ := tyI_some ht
      simp only [World.shape?, heap_alloc_new, h2, Program.cellsOf, h5, Option.map_some, Option.getD_some, h6]

/-! ### Cutting -/
def bnd (T : Tm) : Option Operand → Nat → Nat → Prop
  | none, d, n => n = d
  | some x, _, n => ∃ k, ev T x = some (.p (.int k (n : Int)))
theorem run_bound {w : World} {k : IntKind} {n y : Nat} {code : BoundsCode} (h : n ≤ y) : (Instr.sliceBound (.int k (n : Int)) y code).run P w = .ok n w := by
  have h1 : (0 : Int) ≤ n := by omega
  have h2 : (n : Int) ≤ (y : Int) := by omega
  simp [Instr.sliceBound, run_asIntOf, h1, h2]
theorem run_bounds {w : World} {I : Nat → Prop} {ρ : List Nat} {a : Act} (hT : TRel P w I ρ N T a.tmps) {lo hi : Option Operand} {isS : Bool} {len cap l h : Nat} (hl : bnd T lo 0 l) (hh : bnd T hi len h) (h1 : l ≤ h) (h2 : h ≤ cap) :
    (Instr.sliceBounds isS len cap (lo.map a.eval) (hi.map a.eval) none).run P w = .ok (l, h, cap) w := by
  have e1 : ∀ x : Operand, hi = some x → ∃ k, a.eval x = .int k (h : Int) := fun x hx => by
    subst hx
    obtain ⟨k, hk⟩ := hh
    exact ⟨k, ev_int hT hk⟩
  have e2 : ∀ x : Operand, lo = some x → ∃ k, a.eval x = .int k (l : Int) := fun x hx => by
    subst hx
    obtain ⟨k, hk⟩ := hl
    exact ⟨k, ev_int hT hk⟩
  cases hi with
  | none =>
    simp only [bnd] at hh
    subst hh
    cases lo with
    | none =>
      simp only [bnd] at hl
      subst hl
      simp [Instr.sliceBounds]
    | some x =>
      obtain ⟨k, hk⟩ := e2 x rfl
      simp [Instr.sliceBounds, hk, run_bound h1]
  | some y =>
    obtain ⟨k', hk'⟩ := e1 y rfl
    cases lo with
    | none =>
      simp only [bnd] at hl
      subst hl
      simp [Instr.sliceBounds, hk', run_bound h2]
    | some x =>
      obtain ⟨k, hk⟩ := e2 x rfl
      simp [Instr.sliceBounds, hk, hk', run_bound h1, run_bound h2]

theorem OpJ.sliceIs {x : Operand} {t : TypeId} {lo hi : Option Operand} {cs r : List PV} {len l h sz : Nat} (ho : o.op = .slice t x lo hi none) (hx : ev T x = some (.p (.is cs len))) (ht : isSl P t = true) (he : elI P t = some sz) (hl : bnd T lo 0 l) (hh : bnd T hi len h) (h1 : l ≤ h) (h2 : h ≤ len)
    (hr : (cs.drop (l * sz)).take ((h - l) * sz) = r) : OpJ P N o T H (.p (.is r (h - l))) H :=
  OpJ.of_pure (by simp [ho]) fun w I ρ a hi' hT => by
    cases hu : P.underlying t with
    | none => simp [isSl, hu] at ht
    | some d =>
      cases d <;> simp [isSl, hu] at ht
      rename_i e
      simp only [elI, hu, Option.map_eq_some_iff] at he
      obtain ⟨⟨b, m⟩, htm, rfl⟩ := he
      rcases hT.ev hx with ⟨⟨ad, cp, hsl⟩, hz⟩ | ⟨blk, off, cap, hb, hle, hsl, hat⟩
      · subst hz
        have hl0 : l = 0 := by omega
        have hh0 : h = 0 := by omega
        subst hl0 hh0
        have hbs := run_bounds (isS := true) (cap := cp) hT hl hh (Nat.le_refl _) (Nat.zero_le _)
        cases ad with
        | none =>
          refine ⟨.slice none 0 cp, ?_, ?_⟩
          · simp [execOp, ho, Instr.sliceAt, run_underlying hu, hsl, Instr.slice, hbs, run_sizeOf' htm]
          · exact .inl ⟨⟨_, _, rfl⟩, by simp⟩
        | some ad =>
          refine ⟨.slice (some ad) 0 cp, ?_, ?_⟩
          · simp [execOp, ho, Instr.sliceAt, run_underlying hu, hsl, Instr.slice, hbs, run_sizeOf' htm, Addr.add]
          · exact .inl ⟨⟨_, _, rfl⟩, by simp⟩
      · have hbs := run_bounds (isS := true) (cap := cap) hT hl hh h1 (by omega)
        refine ⟨.slice (if cap = l then some ⟨blk, off, none⟩ else some ⟨blk, off + l * m, none⟩) (h - l) (cap - l), ?_, ?_⟩
        · simp [execOp, ho, Instr.sliceAt, run_underlying hu, hsl, Instr.slice, hbs, run_sizeOf' htm, add_none]
        · by_cases hc : cap = l
          · have : h - l = 0 := by omega
            rw [this, Nat.zero_mul, List.take_zero] at hr
            subst hr
            rw [if_pos hc, this]
            exact .inr ⟨blk, off, cap - l, fun h => absurd rfl h, by omega, rfl, by simp [RelAt]⟩
          · rw [if_neg hc, ← hr]
            refine .inr ⟨blk, off + l * m, cap - l, fun hn => hb (fun h0 => hn (by rw [h0]; simp)), by omega, rfl, RelAt.take _ (RelAt.drop _ hat)⟩

theorem OpJ.sliceStr {x : Operand} {t : TypeId} {lo hi : Option Operand} {s : ByteArray} {l h : Nat} (ho : o.op = .slice t x lo hi none) (hx : ev T x = some (.p (.str s))) (ht : P.underlying t = some .string) (hl : bnd T lo 0 l) (hh : bnd T hi s.size h) (h1 : l ≤ h) (h2 : h ≤ s.size) :
    OpJ P N o T H (.p (.str (s.extract l h))) H :=
  OpJ.of_pure (by simp [ho]) fun w I ρ a hi' hT => by
    have hst := ev_str hT hx
    have hbs := run_bounds (isS := false) (cap := s.size) hT hl hh h1 h2
    exact ⟨.string (s.extract l h), by simp [execOp, ho, Instr.sliceAt, run_underlying ht, hst, Instr.slice, hbs], by simp [RelV, Rel]⟩

/-- A slice over a variable that holds an array. -/
theorem OpJ.sliceArr {x : Operand} {t : TypeId} {lo hi : Option Operand} {cs r : List PV} {off len l h sz : Nat} (ho : o.op = .slice t x lo hi none) (hx : ev T x = some (.p (.ip cs off))) (ht : arrI P t = some len) (he : elI P t = some sz) (hl : bnd T lo 0 l) (hh : bnd T hi len h) (h1 : l ≤ h) (h2 : h ≤ len)
    (hr : (cs.drop (off + l * sz)).take ((h - l) * sz) = r) : OpJ P N o T H (.p (.is r (h - l))) H :=
  OpJ.of_pure (by simp [ho]) fun w I ρ a hi' hT => by
    cases hu : P.underlying t with
    | none => simp [arrI, hu] at ht
    | some d =>
      cases d <;> simp [arrI, hu] at ht
      rename_i n e
      subst ht
      simp only [elI, hu, Option.map_eq_some_iff] at he
      obtain ⟨⟨b, m⟩, htm, rfl⟩ := he
      obtain ⟨blk, o', hb, hsl, hat⟩ := hT.ev hx
      have hbs := run_bounds (isS := false) (cap := n) hT hl hh h1 h2
      refine ⟨.slice (some (if n = l then ⟨blk, o' + off, none⟩ else ⟨blk, o' + off + l * m, none⟩)) (h - l) (n - l), ?_, ?_⟩
      · simp [execOp, ho, Instr.sliceAt, run_underlying hu, hsl, Instr.sureAddr, hbs, run_sizeOf' htm, add_none]
      · by_cases hc : n = l
        · have : h - l = 0 := by omega
          rw [this, Nat.zero_mul, List.take_zero] at hr
          subst hr
          rw [if_pos hc, this]
          exact .inr ⟨blk, o' + off, n - l, fun h => absurd rfl h, by omega, rfl, by simp [RelAt]⟩
        · rw [if_neg hc, ← hr]
          refine .inr ⟨blk, o' + off + l * m, n - l, fun hn => hb, by omega, rfl, ?_⟩
          have := RelAt.take ((h - l) * m) (RelAt.drop (off + l * m) hat)
          rwa [show o' + (off + l * m) = o' + off + l * m by omega] at this

/-! ### Appending -/
/-- The cells of a source of n elements. -/
def asrc (H : List Blk) (sz : Nat) : V → Option (List V × Nat)
  | .p (.is ys n) => if ys.length = n * sz then some (ys.map .p, n) else none
  | .p .nilSlice => some ([], 0)
  | .row j n => match blkCells H[j]? with
    | some cs => if n * sz ≤ cs.length then some (cs.take (n * sz), n) else none
    | none => none
  | .sl j off n => match blkCells H[j]? with
    | some cs => if off + n * sz ≤ cs.length then some ((cs.drop off).take (n * sz), n) else none
    | none => none
  | _ => none

theorem run_asrc {w : World} {I : Nat → Prop} {ρ : List Nat} {sz n : Nat} {y : V} {ys : List V} {u : Value} (hi : Inv P w I ρ H) (hy : RelV P w I ρ y u) (h : asrc H sz y = some (ys, n)) :
    ∃ us : List Value, (∃ ad cap, u = .slice ad n cap) ∧ (∀ w' : World, (∀ b, b < w.heap.size → w'.heap[b]? = w.heap[b]?) → (Builtin.firstCells sz n u).run P w' = .ok us.toArray w') ∧ (∀ k, k ≤ n → (Builtin.firstCells sz k u).run P w = .ok (us.take (k * sz)).toArray w) ∧ RelVL P w I ρ ys us ∧ us.length = n * sz := by
  have fin : ∀ (blk off cap : Nat) (us : List Value), u = .slice (some ⟨blk, off, none⟩) n cap → us.length = n * sz → (∀ j v, us[j]? = some v → w.cell? ⟨blk, off + j, none⟩ = some v) → RelVL P w I ρ ys us →
      ∃ us : List Value, (∃ ad cap, u = .slice ad n cap) ∧ (∀ w' : World, (∀ b, b < w.heap.size → w'.heap[b]? = w.heap[b]?) → (Builtin.firstCells sz n u).run P w' = .ok us.toArray w') ∧ (∀ k, k ≤ n → (Builtin.firstCells sz k u).run P w = .ok (us.take (k * sz)).toArray w) ∧ RelVL P w I ρ ys us ∧ us.length = n * sz := by
    intro blk off cap us hu hl hc hr
    refine ⟨us, ⟨_, _, hu⟩, fun w' hw' => ?_, fun k hk => ?_, hr, hl⟩
    · rw [hu]
      have := run_loadCells_list (P := P) w' ⟨blk, off, none⟩ us (fun j v hj => by
        rw [add_none]
        have h1 := hc j v hj
        have hlt := World.block_lt_of_cell? _ _ h1
        exact (cell_of_block (hw' blk hlt)).trans h1)
      rw [hl] at this
      simpa [Builtin.firstCells] using this
    · rw [hu]
      have := run_loadCells_list (P := P) w ⟨blk, off, none⟩ (us.take (k * sz)) (fun j v hj => by
        rw [add_none]
        rw [List.getElem?_take] at hj
        split at hj
        · exact hc j v hj
        · cases hj)
      rw [List.length_take, hl, Nat.min_eq_left (Nat.mul_le_mul_right _ hk)] at this
      simpa [Builtin.firstCells] using this
  unfold asrc at h
  split at h
  · rename_i xs m
    split at h
    · rename_i hlen
      simp at h
      obtain ⟨rfl, rfl⟩ := h
      rcases hy with ⟨⟨ad, cp, hu⟩, hz⟩ | ⟨b, o', cap, hb, hle, hu, hat⟩
      · subst hz
        have hcs : xs = [] := by simpa using hlen
        subst hcs
        refine ⟨[], ⟨_, _, hu⟩, fun w' _ => by rw [hu]; cases ad <;> simp [Builtin.firstCells, loadCells, loadCellsFrom], fun k hk => ?_, by simp [RelVL], by simp⟩
        have : k = 0 := by omega
        subst this
        rw [hu]; cases ad <;> simp [Builtin.firstCells, loadCells, loadCellsFrom]
      · obtain ⟨us, h1, h2, h3⟩ := RelAt.list hat
        exact fin b o' cap us hu (by rw [h2, hlen]) h3 (RelVL.pure.2 h1)
    · cases h
  · simp at h
    obtain ⟨rfl, rfl⟩ := h
    have hu : u = .slice none 0 0 := hy
    refine ⟨[], ⟨_, _, hu⟩, fun w' _ => by rw [hu]; simp [Builtin.firstCells], fun k hk => ?_, by simp [RelVL], by simp⟩
    rw [hu]; simp [Builtin.firstCells]
  · rename_i j m
    split at h
    · rename_i cs hc
      split at h
      · rename_i hle
        simp at h
        obtain ⟨rfl, rfl⟩ := h
        obtain ⟨b, e, cap, hρ, hu, _, _⟩ := hy
        obtain ⟨b', arr, e', hρ', hw, hl, hr⟩ := own_cells hi hc
        rw [hρ] at hρ'; cases hρ'
        refine fin b 0 cap ((arr.toList.take cs.length).take (m * sz)) hu (by simp; omega) (fun j v hj => ?_) (RelVL.take _ hr)
        rw [List.getElem?_take] at hj
        split at hj
        · rw [List.getElem?_take] at hj
          split at hj
          · simp only [World.cell?, hw]
            simpa using hj
          · cases hj
        · cases hj
      · cases h
    · cases h
  · rename_i j off m
    split at h
    · rename_i cs hc
      split at h
      · rename_i hle
        simp at h
        obtain ⟨rfl, rfl⟩ := h
        obtain ⟨b, cap, hρ, hu, _⟩ := hy
        obtain ⟨b', arr, e', hρ', hw, hl, hr⟩ := own_cells hi hc
        rw [hρ] at hρ'; cases hρ'
        refine fin b off cap (((arr.toList.take cs.length).drop off).take (m * sz)) hu (by simp; omega) (fun j v hj => ?_) (RelVL.take _ (RelVL.drop _ hr))
        rw [List.getElem?_take] at hj
        split at hj
        · rw [List.getElem?_drop, List.getElem?_take] at hj
          split at hj
          · simp only [World.cell?, hw]
            simpa using hj
          · cases hj
        · cases hj
      · cases h
    · cases h
  · cases h

theorem nextcap_le {need cap : Nat} (h : cap < need) : Builtin.nextslicecap need cap ≤ 2 * need + 192 := by
  unfold Builtin.nextslicecap
  split
  · omega
  · split
    · omega
    · have grow : ∀ (r c : Nat), c < need → Builtin.growBy need r c ≤ 2 * need + 192 := by
        intro r
        induction r with
        | zero => intro c hc; simp [Builtin.growBy]; omega
        | succ r ih =>
          intro c hc
          simp only [Builtin.growBy]
          rw [if_neg (by omega)]
          by_cases h2 : c + (c + 768) / 4 < need
          · exact ih _ h2
          · cases r with
            | zero => simp only [Builtin.growBy]; omega
            | succ r => simp only [Builtin.growBy]; rw [if_pos (by omega)]; omega
      exact grow 4 cap h

theorem setAt_append (cs : List V) : ∀ (vs ts pre : List V), ts.length = vs.length → setAt (cs ++ pre ++ ts) (cs.length + pre.length) vs = cs ++ pre ++ vs
  | [], ts, pre, h => by
    have : ts = [] := by simpa using h
    subst this
    simp [setAt]
  | v :: vs, ts, pre, h => by
    match ts, h with
    | t :: ts, h =>
      simp only [setAt]
      have e1 : (cs ++ pre ++ t :: ts).set (cs.length + pre.length) v = cs ++ (pre ++ [v]) ++ ts := by
        rw [show cs.length + pre.length = (cs ++ pre).length by simp, List.set_append_right _ _ (Nat.le_refl _)]
        simp
      rw [e1]
      have := setAt_append cs vs ts (pre ++ [v]) (by simpa using h)
      rw [show cs.length + pre.length + 1 = cs.length + (pre ++ [v]).length by simp; omega, this]
      simp

theorem RelVL.tops {w : World} {I : Nat → Prop} {ρ : List Nat} : ∀ (us : List Value), RelVL P w I ρ (List.replicate us.length .top) us
  | [] => by simp [RelVL]
  | u :: us => ⟨u, us, rfl, trivial, RelVL.tops us⟩

/-- Bytes of an element. -/
def byI (P : Program) (e : TypeId) : Option Nat := (P.info? e).map (·.bytes)

theorem one_of {w : World} {I : Nat → Prop} {ρ : List Nat} : ∀ {vs : List V} {us : List Value}, RelVL P w I ρ vs us → vs.all oneV = true → ∀ u ∈ us, oneU u = true
  | [], us, h, _, u, hu => by simp [RelVL] at h; subst h; cases hu
  | v :: vs, us, h, ha, u, hu => by
    obtain ⟨u0, us', rfl, h3, h4⟩ := h
    simp only [List.all_cons, Bool.and_eq_true] at ha
    rcases List.mem_cons.1 hu with rfl | hu
    · exact oneCell_of h3 ha.1
    · exact one_of h4 ha.2 u hu

theorem run_append_grow {w : World} {t t2 e d2 : TypeId} {ty : TypeId} {bb : Bool} {sz len cap n ycap : Nat} {base ad : Option Addr} {inf : TypeInfo} {old new : Array Value} {uz : Value} (hu : P.underlying t = some (.slice e)) (htk : tyI P e = some (bb, sz)) (hd2 : P.underlying t2 = some (.slice d2))
    (hinf : P.info? e = some inf) (hsmall : ¬ (Builtin.nextslicecap (len + n) cap * inf.bytes > 2 ^ 48)) (hneed : ((len + n : Nat) : Int) ≤ IntKind.i64.max) (hroom : ¬ len + n ≤ cap) (hold : (Builtin.firstCells sz len (.slice base len cap)).run P w.drew = .ok old w.drew)
    (hnew : (Builtin.firstCells sz n (.slice ad n ycap)).run P w.drew = .ok new w.drew) (hz : (zeroValue e).run P w.drew = .ok uz w.drew) :
    (Builtin.append_ #[t, t2] ty #[.slice base len cap, .slice ad n ycap]).run P w = .ok (.slice (some ⟨w.heap.size, 0, none⟩) (len + n) ((Question.appendCap (len + n) cap e).cut (w.tape w.drawn (.appendCap (len + n) cap e))))
      (w.drew.alloc (.cells (old ++ new ++ Builtin.zeroCells uz.cells ((Question.appendCap (len + n) cap e).cut (w.tape w.drawn (.appendCap (len + n) cap e)) - (len + n))) e)) := by
  have hask : ∀ k w, (askRoom k).run P w = .ok () w := fun k w => by
    unfold askRoom
    split <;> simp [mark, Sem.run]
  have hch : (choose (.appendCap (len + n) cap e)).run P w = .ok ((Question.appendCap (len + n) cap e).cut (w.tape w.drawn (.appendCap (len + n) cap e))) w.drew := by
    simp [choose, Sem.run, Question.forced]
  have h1 : ¬ (9223372036854775807 < (len : Int) + (n : Int)) := by
    have h2 : IntKind.i64.max = 9223372036854775807 := by decide
    rw [h2] at hneed
    omega
  have hsmall2 : ¬ (281474976710656 < Builtin.nextslicecap (len + n) cap * inf.bytes) := by
    have h2 : (2 : Nat) ^ 48 = 281474976710656 := by decide
    omega
  have hf : (Question.appendCap (len + n) cap e).forced = false := rfl
  simp [Builtin.append_, run_underlying hu, run_sizeOf' htk, run_underlying hd2, Builtin.lenOf, hroom]
  simp only [run_typeInfo w hinf, Result.andThen]
  simp [h1, hsmall2, hf, run_typeInfo w hinf, hch, run_typeInfo w.drew hinf, hask, hold, hnew, hz, newRow, newObj, Sem.run]
  rfl

theorem OpJ.appendRow {x y : Operand} {t t2 e : TypeId} {z : List PV} {i len n by_ : Nat} {cs ys : List V} {yv : V} (ho : o.op = .call { callee := .builtin .append, args := #[x, y], argTypes := #[t, t2] }) (hx : ev T x = some (.row i len)) (hy : ev T y = some yv) (hs : slI P t = some (e, z)) (ht2 : isSl P t2 = true)
    (hH : H[i]? = some (.row cs e)) (hcs : cs.length = len * z.length) (hsrc : asrc H z.length yv = some (ys, n)) (hone : ys.all oneV = true) (hby : byI P e = some by_) (hb0 : 0 < by_) (hb : (2 * (len + n) + 192) * by_ ≤ 281474976710656) :
    OpJ P N o T H (.row H.length (len + n)) (H.set i .dead ++ [.row (cs ++ ys) e]) :=
  OpJ.of_run (by simp [ho]) fun w I ρ a hi hT => by
    obtain ⟨hu, ⟨bb, htk⟩, hz0, hz⟩ := slI_some hs
    obtain ⟨b, e', cap, hρ, hxu, hsh, hle⟩ := hT.ev hx
    obtain ⟨us, ⟨ad, ycap, hyu⟩, hfc, _, hrel, hlen⟩ := run_asrc hi (hT.ev hy) hsrc
    obtain ⟨arr, hw, hal, har⟩ := hi.rel i b _ hρ hH
    have hce : P.cellsOf e = z.length := by
      obtain ⟨d, inf, _, h5, _, h6⟩ := tyI_some htk
      simp [Program.cellsOf, h5, h6]
    have hsz : e' = e ∧ arr.size = cap * z.length := by
      simp only [World.shape?, hw, Option.some.injEq, Prod.mk.injEq] at hsh
      obtain ⟨h1, h2⟩ := hsh
      subst h1
      exact ⟨rfl, by rw [h2, hce]⟩
    obtain ⟨rfl, hsz⟩ := hsz
    have hinfo : ∃ inf, P.info? e' = some inf ∧ inf.bytes = by_ := by
      unfold byI at hby
      cases h : P.info? e' with
      | none => rw [h] at hby; cases hby
      | some inf => rw [h] at hby; simp at hby; exact ⟨inf, rfl, hby⟩
    obtain ⟨inf, hinf, hbyt⟩ := hinfo
    have hd2 : ∃ d2, P.underlying t2 = some (.slice d2) := by
      cases h : P.underlying t2 with
      | none => simp [isSl, h] at ht2
      | some d => cases d <;> simp [isSl, h] at ht2; exact ⟨_, rfl⟩
    obtain ⟨d2, hd2⟩ := hd2
    have hun : ∀ u ∈ us, oneU u = true := one_of hrel hone
    have hyl := RelVL.length hrel
    have hlive : (Blk.row cs e').live = true := rfl
    have hcl := RelVL.length har
    by_cases hroom : len + n ≤ cap
    · -- there is room
      have hfit : len * z.length + 0 + us.length ≤ arr.size := by
        rw [hlen, hsz, Nat.add_zero, ← Nat.add_mul]
        exact Nat.mul_le_mul_right _ hroom
      obtain ⟨w', arr', r1, r2, r3, r4, r5, r6, r7, r8, r9⟩ := run_storeCells_own (P := P) (w := w) us arr w (len * z.length) 0 hw hfit hun
      have hE : Ext w I ρ w' I ρ := Ext.write hi hρ hH hlive r5 r6 r7 r8 r9 (fun s h => by
        simp only [World.shape?, hw] at h
        simp only [World.shape?, r2, r3]
        exact h)
      have hfold : RelVL P w' I ρ (cs ++ ys) (arr'.toList.take (cs ++ ys).length) := by
        have h0 : RelVL P w I ρ (cs ++ List.replicate ys.length .top) (arr.toList.take (cs ++ List.replicate ys.length V.top).length) := by
          have e1 : arr.toList.take (cs ++ List.replicate ys.length V.top).length = arr.toList.take cs.length ++ (arr.toList.drop cs.length).take ys.length := by
            rw [List.length_append, List.length_replicate, List.take_add]
          rw [e1]
          refine RelVL.append har ?_
          have e2 : ((arr.toList.drop cs.length).take ys.length).length = ys.length := by
            simp only [List.length_take, List.length_drop, Array.length_toList]
            rw [hcs, ← hyl, hlen, hsz, ← Nat.sub_mul]
            exact Nat.min_eq_left (Nat.mul_le_mul_right _ (by omega))
          have := RelVL.tops (P := P) (w := w) (I := I) (ρ := ρ) ((arr.toList.drop cs.length).take ys.length)
          rw [e2] at this
          exact this
        have := foldl_setAt (P := P) (w := w') (I := I) (ρ := ρ) ys us (cs ++ List.replicate ys.length .top) arr.toList (len * z.length + 0) (RelVL.ext hE hrel) (by simp [hcs]) (RelVL.ext hE h0)
        have e3 := setAt_append cs ys (List.replicate ys.length .top) [] (by simp)
        simp only [List.append_nil, List.length_nil] at e3
        rw [Nat.add_zero, ← hcs] at this
        rw [Nat.add_zero] at e3
        rw [e3] at this
        rw [r4, Nat.add_zero, ← hcs]
        have e4 : (cs ++ List.replicate ys.length V.top).length = (cs ++ ys).length := by simp
        rw [e4] at this
        exact this
      have hE2 : Ext w' I ρ w' I (ρ ++ [b]) := ⟨⟨rfl, rfl, rfl, Nat.le_refl _, fun _ _ _ => rfl, fun _ _ h => h, fun _ h => h, fun _ _ => rfl, fun _ h => .inl h, fun _ h => .inl h, fun _ h => h, fun _ _ h => h, fun k hk => by
        rcases List.mem_append.1 hk with h | h
        · exact .inl h
        · simp at h; subst h; exact .inl (List.mem_of_getElem? hρ)⟩, ⟨_, rfl⟩⟩
      have hi1 : Inv P w' I ρ (H.set i .dead) := Inv.write hi hρ hH hlive hE r8 r9 trivial
      have hilt : i < H.length := (List.getElem?_eq_some_iff.1 hH).1
      have hi2 : Inv P w' I (ρ ++ [b]) (H.set i .dead ++ [.row (cs ++ ys) e']) := by
        refine ⟨by simp [hi.len], fun j k blk h1 h2 h3 => ?_, hi1.ib, fun j k blk h1 h2 h3 h4 => ?_, fun j j' k bx by2 h1 h2 h3 h4 h5 h6 => ?_, fun j k blk h1 h2 => ?_, hi1.gl⟩
        · rcases get_append_one h1 with ⟨h5, h6⟩ | ⟨h5, h6⟩
          · rw [List.getElem?_append_left (by simp [← hi.len]; exact h5)] at h2
            exact hi1.bnd j k blk h6 h2 h3
          · subst h6
            rw [r8]; exact hi.bnd i k _ hρ hH hlive
        · rcases get_append_one h1 with ⟨h5, h6⟩ | ⟨h5, h6⟩
          · rw [List.getElem?_append_left (by simp [← hi.len]; exact h5)] at h2
            exact hi1.live j k blk h6 h2 h3 h4
          · subst h6
            exact hi.live i k _ hρ hH hlive h4
        · rcases get_append_one h1 with ⟨h7, h8⟩ | ⟨h7, h8⟩ <;> rcases get_append_one h2 with ⟨h9, h10⟩ | ⟨h9, h10⟩
          · rw [List.getElem?_append_left (by simp [← hi.len]; exact h7)] at h3
            rw [List.getElem?_append_left (by simp [← hi.len]; exact h9)] at h4
            exact hi1.dist j j' k bx by2 h8 h10 h3 h4 h5 h6
          · subst h10
            rw [List.getElem?_append_left (by simp [← hi.len]; exact h7)] at h3
            exfalso
            by_cases hji : i = j
            · subst hji
              simp [hilt] at h3
              subst h3
              cases h5
            · rw [List.getElem?_set_ne hji] at h3
              exact hji (hi.dist i j k _ bx hρ h8 hH h3 hlive h5)
          · subst h8
            rw [List.getElem?_append_left (by simp [← hi.len]; exact h9)] at h4
            exfalso
            by_cases hji : i = j'
            · subst hji
              simp [hilt] at h4
              subst h4
              cases h6
            · rw [List.getElem?_set_ne hji] at h4
              exact hji (hi.dist i j' k _ by2 hρ h10 hH h4 hlive h6)
          · omega
        · rcases get_append_one h1 with ⟨h5, h6⟩ | ⟨h5, h6⟩
          · rw [List.getElem?_append_left (by simp [← hi.len]; exact h5)] at h2
            exact RelB.ext hE2 hi1 h6 h2 rfl
          · subst h6
            have hj : j = (H.set i .dead).length := by simp [← hi.len]; exact h5
            subst hj
            simp at h2
            subst h2
            refine ⟨arr', r2, ?_, RelVL.ext hE2 hfold⟩
            rw [r3, List.length_append, hcs, ← hyl, hlen, hsz, ← Nat.add_mul]
            exact Nat.mul_le_mul_right _ hroom
      refine ⟨.slice (some ⟨b, 0, none⟩) (len + n) cap, w', I, ρ ++ [b], .inl ?_, hE.trans hE2, hi2, b, e', cap, by rw [← hi.len]; simp, rfl, ?_, hroom⟩
      · simp [execOp, ho, resolve, invoke, builtin, Builtin.append_, run_underlying hu, hxu, run_sizeOf' htk, run_underlying hd2, hyu, Builtin.lenOf, hroom]
        rw [hyu] at hfc
        simp only [hfc w (fun _ _ => rfl), Result.andThen, add_none, Nat.zero_add, r1]
      · simp only [World.shape?, r2, r3, hsz, hce]
    · -- a new array
      have hcut : ∀ q, len + n ≤ (Question.appendCap (len + n) cap e').cut q := fun q => Nat.le_add_right _ _
      obtain ⟨uz, hz1, hz2⟩ := hz w.drew
      have hzl := RelL.length (hz2 I)
      have hzsz : uz.cells.size = z.length := by simpa using hzl
      have hnext := nextcap_le (need := len + n) (cap := cap) (by omega)
      have hsmall : ¬ (Builtin.nextslicecap (len + n) cap * by_ > 2 ^ 48) := by
        have h1 := Nat.mul_le_mul_right by_ hnext
        have h2 : (2 : Nat) ^ 48 = 281474976710656 := by decide
        omega
      let newCap := (Question.appendCap (len + n) cap e').cut (w.tape w.drawn (.appendCap (len + n) cap e'))
      have hnc : len + n ≤ newCap := hcut _
      have hold : (Builtin.firstCells z.length len (.slice (some ⟨b, 0, none⟩) len cap)).run P w.drew = .ok (arr.toList.take (len * z.length)).toArray w.drew := by
        have := run_loadCells_list (P := P) w.drew ⟨b, 0, none⟩ (arr.toList.take (len * z.length)) (fun j v hj => by
          rw [add_none, Nat.zero_add]
          rw [List.getElem?_take] at hj
          split at hj
          · show w.cell? _ = _
            simp only [World.cell?, hw]
            simpa using hj
          · cases hj)
        have hl2 : (arr.toList.take (len * z.length)).length = len * z.length := by
          simp only [List.length_take, Array.length_toList]; rw [hsz]; exact Nat.min_eq_left (Nat.mul_le_mul_right _ hle)
        rw [hl2] at this
        simpa [Builtin.firstCells] using this
      have hnew := hfc w.drew (fun _ _ => rfl)
      let arr2 : Array Value := (arr.toList.take (len * z.length)).toArray ++ us.toArray ++ Builtin.zeroCells uz.cells (newCap - (len + n))
      have hE1 : Ext w I ρ w.drew I ρ := Ext.drew
      have hi1 : Inv P w.drew I ρ H := hi.drew
      have hE2 : Ext w.drew I ρ (w.drew.alloc (.cells arr2 e')) I (ρ ++ [w.drew.heap.size]) := Ext.allocOwn hi1 _
      have hi2 : Inv P (w.drew.alloc (.cells arr2 e')) I (ρ ++ [w.drew.heap.size]) (H ++ [.row (cs ++ ys) e']) := by
        refine Inv.allocOwn hi1 _ ⟨arr2, heap_alloc_new _ _, ?_, RelVL.ext hE2 (RelVL.ext hE1 ?_)⟩
        · simp only [arr2, Array.size_append, List.length_append]
          rw [hcs, ← hyl]
          simp
          rw [hsz]
          have := Nat.mul_le_mul_right z.length hle
          omega
        · have e1 : arr2.toList.take (cs ++ ys).length = arr.toList.take cs.length ++ us := by
            simp only [arr2, Array.toList_append]
            rw [List.append_assoc, List.take_append]
            have hl2 : (arr.toList.take (len * z.length)).length = len * z.length := by
              simp only [List.length_take, Array.length_toList]; rw [hsz]; exact Nat.min_eq_left (Nat.mul_le_mul_right _ hle)
            have e3 : (cs ++ ys).length = len * z.length + us.length := by rw [List.length_append, hcs, hyl]
            simp only [hl2, e3, hcs]
            rw [List.take_of_length_le (by rw [hl2]; omega), Nat.add_sub_cancel_left, List.take_append_of_le_length (Nat.le_refl _), List.take_length]
          rw [e1]
          exact RelVL.append har hrel
      have hilt : i < H.length := (List.getElem?_eq_some_iff.1 hH).1
      have hi3 : Inv P (w.drew.alloc (.cells arr2 e')) I (ρ ++ [w.drew.heap.size]) (H.set i .dead ++ [.row (cs ++ ys) e']) := by
        have hset : H.set i .dead ++ [Blk.row (cs ++ ys) e'] = (H ++ [Blk.row (cs ++ ys) e']).set i .dead := by rw [List.set_append_left _ _ hilt]
        rw [hset]
        have hρ2 : (ρ ++ [w.drew.heap.size])[i]? = some b := by
          rw [List.getElem?_append_left (by rw [hi.len]; exact hilt)]
          exact hρ
        have hH2 : (H ++ [Blk.row (cs ++ ys) e'])[i]? = some (Blk.row cs e') := by
          rw [List.getElem?_append_left hilt]; exact hH
        exact Inv.write hi2 hρ2 hH2 hlive (Ext.refl _ _ _) rfl (fun _ _ => rfl) trivial
      refine ⟨.slice (some ⟨w.heap.size, 0, none⟩) (len + n) newCap, w.drew.alloc (.cells arr2 e'), I, ρ ++ [w.drew.heap.size], .inl ?_, hE1.trans hE2, hi3, w.heap.size, e', newCap, by rw [← hi.len]; simp, rfl, ?_, hnc⟩
      · rw [hyu] at hnew
        have hneed : ((len + n : Nat) : Int) ≤ IntKind.i64.max := by
          have h1 := Nat.le_mul_of_pos_right (2 * (len + n) + 192) hb0
          have h2 : IntKind.i64.max = 9223372036854775807 := by decide
          rw [h2]
          omega
        have := run_append_grow (P := P) (w := w) (t := t) (t2 := t2) (ty := o.type) hu htk hd2 hinf (by rw [hbyt]; exact hsmall) hneed hroom hold hnew hz1
        simp only [execOp, ho, resolve, invoke, builtin, Sem.run_bind]
        simp only [Sem.run_pure, Result.andThen, List.map_toArray, List.map_cons, List.map_nil, hxu, hyu, Sem.run_bind, this]
        rfl
      · simp only [World.shape?]
        show (match (w.drew.alloc (.cells arr2 e')).heap[w.drew.heap.size]? with | some (.cells c elem _) => some (elem, c.size) | _ => none) = _
        rw [heap_alloc_new]
        simp only [arr2, Array.size_append, hce, Builtin.zeroCells]
        simp
        rw [hlen, hzsz, hsz, Nat.min_eq_left (Nat.mul_le_mul_right _ hle), ← Nat.add_mul, ← Nat.add_mul]
        congr 1
        omega
end
end Go.AF
end

/-! ## Own blocks that change places, loops whose rounds lay blocks, calls that keep some places. -/
section
set_option linter.unusedVariables false
set_option linter.unusedSimpArgs false
set_option linter.unnecessarySimpa false
namespace Go.AF

mutual
def renV (σ : Nat → Option Nat) : V → V
  | .p x => .p x
  | .ptr i off => match σ i with
    | some j => .ptr j off
    | none => .top
  | .row i len => match σ i with
    | some j => .row j len
    | none => .top
  | .sl i off len => match σ i with
    | some j => .sl j off len
    | none => .top
  | .map i => match σ i with
    | some j => .map j
    | none => .top
  | .func fn fi ca => .func fn (renL σ fi) (renL σ ca)
  | .iface t v => .iface t (renV σ v)
  | .agg cs => .agg (renL σ cs)
  | .tuple cs => .tuple (renL σ cs)
  | .opt g v => .opt g (renV σ v)
  | .raw a n c => .raw a n c
  | .z0 => .z0
  | .top => .top
def renL (σ : Nat → Option Nat) : List V → List V
  | [] => []
  | v :: vs => renV σ v :: renL σ vs
end
def renT (σ : Nat → Option Nat) : Tm → Tm
  | [] => []
  | (s, v) :: r => (s, renV σ v) :: renT σ r
def renB (σ : Nat → Option Nat) : Blk → Blk
  | .cells cs e => .cells (renL σ cs) e
  | .row cs e => .row (renL σ cs) e
  | .rowF cs e => .rowF (renL σ cs) e
  | .map ks vs => .map (renL σ ks) (renL σ vs)
  | .strIter s p => .strIter s p
  | .mapIter ks vs last => .mapIter ks vs last
  | .loop r st pe => .loop { r with T := renT σ r.T } st pe
  | .dead => .dead

section
variable {P : Program} {w : World} {I : Nat → Prop} {ρ ρ2 : List Nat} {σ : Nat → Option Nat}
mutual
theorem renV_rel (hσ : ∀ i j b : Nat, σ i = some j → ρ[i]? = some b → ρ2[j]? = some b) : ∀ (v : V) (u : Value), RelV P w I ρ v u → RelV P w I ρ2 (renV σ v) u
  | .p x, u, h => h
  | .ptr i off, u, h => by
    simp only [renV]
    split
    · rename_i j hj
      obtain ⟨b, h1, h2⟩ := h
      exact ⟨b, hσ i j b hj h1, h2⟩
    · trivial
  | .row i len, u, h => by
    simp only [renV]
    split
    · rename_i j hj
      obtain ⟨b, e, cap, h1, h2⟩ := h
      exact ⟨b, e, cap, hσ i j b hj h1, h2⟩
    · trivial
  | .sl i off len, u, h => by
    simp only [renV]
    split
    · rename_i j hj
      obtain ⟨b, cap, h1, h2⟩ := h
      exact ⟨b, cap, hσ i j b hj h1, h2⟩
    · trivial
  | .map i, u, h => by
    simp only [renV]
    split
    · rename_i j hj
      obtain ⟨b, h1, h2⟩ := h
      exact ⟨b, hσ i j b hj h1, h2⟩
    · trivial
  | .func fn fi ca, u, h => by
    obtain ⟨us, vs, hu, h1, h2⟩ := h
    exact ⟨us, vs, hu, renL_rel hσ fi _ h1, renL_rel hσ ca _ h2⟩
  | .iface t v, u, h => by
    obtain ⟨x, hu, h1⟩ := h
    exact ⟨x, hu, renV_rel hσ v x h1⟩
  | .agg cs, u, h => by
    obtain ⟨us, hu, h1⟩ := h
    exact ⟨us, hu, renL_rel hσ cs _ h1⟩
  | .tuple cs, u, h => by
    obtain ⟨us, hu, h1⟩ := h
    exact ⟨us, hu, renL_rel hσ cs _ h1⟩
  | .opt g v, u, h => ⟨fun hg => renV_rel hσ v u (h.1 hg), h.2⟩
  | .raw _ _ _, u, h => h
  | .z0, u, h => h
  | .top, u, h => trivial
theorem renL_rel (hσ : ∀ i j b : Nat, σ i = some j → ρ[i]? = some b → ρ2[j]? = some b) : ∀ (vs : List V) (us : List Value), RelVL P w I ρ vs us → RelVL P w I ρ2 (renL σ vs) us
  | [], us, h => h
  | v :: vs, us, h => by
    obtain ⟨u, us', hu, h1, h2⟩ := h
    exact ⟨u, us', hu, renV_rel hσ v u h1, renL_rel hσ vs us' h2⟩
end
theorem renL_length (σ : Nat → Option Nat) : ∀ vs : List V, (renL σ vs).length = vs.length
  | [] => rfl
  | _ :: vs => by simp [renL, renL_length σ vs]
theorem lk_renT (σ : Nat → Option Nat) : ∀ (T : Tm) (s : Nat), lk (renT σ T) s = (lk T s).map (renV σ)
  | [], s => rfl
  | (a, v) :: r, s => by
    simp only [renT, lk]
    cases Nat.beq a s with
    | true => rfl
    | false => exact lk_renT σ r s
theorem renB_rel (hσ : ∀ i j b : Nat, σ i = some j → ρ[i]? = some b → ρ2[j]? = some b) {x : Blk} {b : Nat} (h : RelB P w I ρ x b) : RelB P w I ρ2 (renB σ x) b := by
  cases x with
  | cells cs e =>
    obtain ⟨arr, h1, h2⟩ := h
    exact ⟨arr, h1, renL_rel hσ cs _ h2⟩
  | row cs e =>
    obtain ⟨arr, h1, h2, h3⟩ := h
    exact ⟨arr, h1, by rw [renL_length]; exact h2, by rw [renL_length]; exact renL_rel hσ cs _ h3⟩
  | rowF cs e =>
    obtain ⟨arr, m, h1, h0, h2, h3⟩ := h
    exact ⟨arr, m, h1, by rw [renL_length]; exact h0, by rw [renL_length]; exact h2, by rw [renL_length]; exact renL_rel hσ cs _ h3⟩
  | map ks vs =>
    obtain ⟨es, clock, h1, h2, h3, h4⟩ := h
    exact ⟨es, clock, h1, renL_rel hσ ks _ h2, renL_rel hσ vs _ h3, h4⟩
  | strIter s pos => exact h
  | mapIter ks vs last => exact h
  | loop r st pe =>
    obtain ⟨h0, h1, h3⟩ := h
    refine ⟨h0, h1, fun s v hv => ?_⟩
    rw [show ({ r with T := renT σ r.T } : LRec).T = renT σ r.T from rfl, lk_renT, Option.map_eq_some_iff] at hv
    obtain ⟨v0, h4, rfl⟩ := hv
    exact renV_rel hσ v0 _ (h3 s v0 h4)
  | dead => trivial
theorem renB_live {x : Blk} : (renB σ x).live = x.live := by cases x <;> rfl
theorem TRel.ren {N : Nat} {T : Tm} {tmps : Array Value} (hσ : ∀ i j b : Nat, σ i = some j → ρ[i]? = some b → ρ2[j]? = some b) (h : TRel P w I ρ N T tmps) : TRel P w I ρ2 N (renT σ T) tmps :=
  ⟨h.size, fun s v hv => by
    rw [lk_renT, Option.map_eq_some_iff] at hv
    obtain ⟨v0, h4, rfl⟩ := hv
    exact renV_rel hσ v0 _ (h.at_ s v0 h4)⟩
end

/-- From one abstract state to another that says no more, nothing being done. -/
def To (P : Program) (κ N : Nat) (T : Tm) (H : List Blk) (T2 : Tm) (H2 : List Blk) : Prop :=
  ∀ w I ρ tmps, Inv P w I ρ H → TRel P w I ρ N T tmps → ∃ I' ρ', ExtW w I ρ w I' ρ' ∧ Inv P w I' ρ' H2 ∧ TRel P w I' ρ' N T2 tmps ∧ ∀ L : List Nat, L <+: ρ → L.length ≤ κ → L <+: ρ'

section
variable {P : Program} {R : Option Nat} {N κ : Nat} {Q Q' : Post} {T T' T2 T3 : Tm} {H H' H2 H3 : List Blk} {o : Oper} {ops : Array Oper} {rest : List Oper}

theorem To.refl : To P κ N T H T H := fun w I ρ tmps hi ht => ⟨I, ρ, ExtW.refl _ _ _, hi, ht, fun _ h _ => h⟩
theorem To.sub (hs : Sub T2 T) : To P κ N T H T2 H := fun w I ρ tmps hi ht => ⟨I, ρ, ExtW.refl _ _ _, hi, ht.sub hs, fun _ h _ => h⟩
theorem To.trans (h : To P κ N T H T2 H2) (k : To P κ N T2 H2 T3 H3) : To P κ N T H T3 H3 := fun w I ρ tmps hi ht => by
  obtain ⟨I', ρ', h1, h2, h3, h4⟩ := h w I ρ tmps hi ht
  obtain ⟨I'', ρ'', k1, k2, k3, k4⟩ := k w I' ρ' tmps h2 h3
  exact ⟨I'', ρ'', h1.trans k1, k2, k3, fun L hL hl => k4 L (h4 L hL hl) hl⟩
theorem To.freeze (i : Nat) {xs : List PV} {vs : List V} (hc : blkCells H[i]? = some vs) (hp : allP vs = some xs) : To P κ N T H (frzT i xs T) (H.set i .dead) := fun w I ρ tmps hi ht => by
  rw [allP_some hp] at hc
  obtain ⟨I', h1, h2, h3⟩ := frz_step hi hc ht
  exact ⟨I', ρ, h1.w, h2, h3, fun _ h _ => h⟩

theorem Marks.to {B : Base} {w : World} {I I' : Nat → Prop} {ρ ρ' : List Nat} {ds : List Deferred} (h : ExtW w I ρ w I' ρ') (hp : ∀ L : List Nat, L <+: ρ → L.length ≤ κ → L <+: ρ') (m : Marks κ B w I ρ ds) : Marks κ B w I' ρ' ds := by
  obtain ⟨hB, hκ, hpre, rs, h1, h2, h3⟩ := m
  refine ⟨hB, hκ, hp _ hpre hκ, rs, h1, h2, fun r hr => ?_⟩
  obtain ⟨h4, h5, h6⟩ := h3 r hr
  exact ⟨h4, fun h7 => h5 (h.defI r h4 h7), h6⟩

theorem AWp.to {c : Code} (hto : To P κ N T H T2 H2) (h : AWp P R N κ c Q T2 H2) : AWp P R N κ c Q T H := by
  intro B w I ρ a hi ht hm
  obtain ⟨I', ρ', h1, h2, h3, h4⟩ := hto w I ρ a.tmps hi ht
  exact wpIn_mono (h B w I' ρ' a h2 h3 (hm.to h1 h4)) fun _ _ _ q => QC.ext h1 q
theorem AList.to {l : List Oper} (hto : To P κ N T H T2 H2) (h : AList P R N κ ops l Q T2 H2) : AList P R N κ ops l Q T H := by
  intro QX B w I ρ a hi ht hm hq
  obtain ⟨I', ρ', h1, h2, h3, h4⟩ := hto w I ρ a.tmps hi ht
  exact h QX B w I' ρ' a h2 h3 (hm.to h1 h4) fun e a2 w2 q => hq e a2 w2 (QC.ext h1 q)

/-- A list of places to keep, in their new order. -/
def pl (ks : List Nat) (i : Nat) : Option Nat := ks.idxOf? i
def keepOk (κ n : Nat) (ks : List Nat) : Bool := (ks.take κ == List.range κ) && ks.all (fun i => Nat.blt i n) && decide ks.Nodup

theorem pl_get {ks : List Nat} {i j : Nat} (h : pl ks i = some j) : ks[j]? = some i := by
  unfold pl List.idxOf? at h
  rw [List.findIdx?_eq_some_iff_getElem] at h
  obtain ⟨hj, h1, _⟩ := h
  simp at h1
  simp [hj, h1]

theorem To.keep (ks : List Nat) (hk : keepOk κ H.length ks = true) : To P κ N T H (renT (pl ks) T) (ks.map fun i => renB (pl ks) (H.getD i .dead)) := by
  intro w I ρ tmps hi ht
  simp only [keepOk, Bool.and_eq_true, beq_iff_eq, List.all_eq_true, decide_eq_true_eq] at hk
  obtain ⟨⟨hk1, hk2⟩, hk3⟩ := hk
  have hlt : ∀ i ∈ ks, i < H.length := fun i h => by have := hk2 i h; simpa [Nat.blt, Nat.lt_iff_add_one_le] using this
  have hρ2 : ∀ j i : Nat, ks[j]? = some i → (ks.map fun i => ρ.getD i 0)[j]? = ρ[i]? := fun j i h => by
    have h1 : i < ρ.length := by rw [hi.len]; exact hlt i (List.mem_of_getElem? h)
    simp [h, h1]
  have hσ : ∀ i j b : Nat, pl ks i = some j → ρ[i]? = some b → (ks.map fun i => ρ.getD i 0)[j]? = some b := fun i j b h hb => by rw [hρ2 j i (pl_get h)]; exact hb
  have hat : ∀ (j b : Nat) (blk : Blk), (ks.map fun i => ρ.getD i 0)[j]? = some b → (ks.map fun i => renB (pl ks) (H.getD i .dead))[j]? = some blk → ∃ i x, ks[j]? = some i ∧ ρ[i]? = some b ∧ H[i]? = some x ∧ blk = renB (pl ks) x := by
    intro j b blk h1 h2
    rw [List.getElem?_map, Option.map_eq_some_iff] at h2
    obtain ⟨i, h3, rfl⟩ := h2
    have h4 := hlt i (List.mem_of_getElem? h3)
    rw [hρ2 j i h3] at h1
    exact ⟨i, H[i], h3, h1, by simp [h4], by simp [h4]⟩
  refine ⟨I, ks.map fun i => ρ.getD i 0, ⟨rfl, rfl, rfl, Nat.le_refl _, fun _ _ _ => rfl, fun _ _ h => h, fun _ h => h, fun _ _ => rfl, fun _ h => .inl h, fun _ h => .inl h, fun _ h => h, fun _ _ h => h, fun b hb => ?_⟩,
    ⟨by simp, fun j b blk h1 h2 h3 => ?_, hi.ib, fun j b blk h1 h2 h3 => ?_, fun i j b x y h1 h2 h3 h4 h5 h6 => ?_, fun j b blk h1 h2 => ?_, hi.gl⟩, ht.ren hσ, fun L hL hl => ?_⟩
  · rw [List.mem_map] at hb
    obtain ⟨i, h1, rfl⟩ := hb
    have h2 : i < ρ.length := by rw [hi.len]; exact hlt i h1
    exact .inl (by simp [h2])
  · obtain ⟨i, x, h4, h5, h6, rfl⟩ := hat j b blk h1 h2
    exact hi.bnd i b x h5 h6 (by rwa [renB_live] at h3)
  · obtain ⟨i, x, h4, h5, h6, rfl⟩ := hat j b blk h1 h2
    exact hi.live i b x h5 h6 (by rwa [renB_live] at h3)
  · obtain ⟨i', x', h7, h8, h9, rfl⟩ := hat i b x h1 h3
    obtain ⟨j', y', k7, k8, k9, rfl⟩ := hat j b y h2 h4
    rw [renB_live] at h5 h6
    have := hi.dist i' j' b x' y' h8 k8 h9 k9 h5 h6
    subst this
    have hil : i < ks.length := (List.getElem?_eq_some_iff.1 h7).1
    exact (List.getElem?_inj hil hk3).1 (h7.trans k7.symm)
  · obtain ⟨i, x, h4, h5, h6, rfl⟩ := hat j b blk h1 h2
    exact renB_rel hσ (hi.rel i b x h5 h6)
  · have e1 : L = ρ.take L.length := List.prefix_iff_eq_take.1 hL
    have e2 : (ks.map fun i => ρ.getD i 0).take L.length = ρ.take L.length := by
      have h1 : ks.take L.length = List.range L.length := by
        have := congrArg (List.take L.length) hk1
        rw [List.take_take, Nat.min_eq_left hl, List.take_range, Nat.min_eq_left hl] at this
        exact this
      rw [← List.map_take, h1]
      apply List.ext_getElem?
      intro i
      rw [List.getElem?_map, List.getElem?_take]
      by_cases h : i < L.length
      · have h2 : i < ρ.length := Nat.lt_of_lt_of_le h hL.length_le
        simp [h, h2]
      · simp [h]
    rw [List.prefix_iff_eq_take, e2]
    exact e1

/-- A loop whose rounds may lay blocks. -/
theorem AWp.loopT {γ : Type} {c : Code} (S : γ → Tm) (Hs : γ → List Blk) (inv : γ → Prop) (μ : γ → Nat) (g0 : γ) (h0 : inv g0) (hto : To P κ N T H (S g0) (Hs g0))
    (round : ∀ g, inv g → AWp P R N κ c (AX.then (fun T' H' => ∃ g', inv g' ∧ μ g' < μ g ∧ To P κ N T' H' (S g') (Hs g')) Q) (S g) (Hs g)) : AWp P R N κ (.loop c) Q T H := by
  intro B w I ρ a hi ht hm
  obtain ⟨I0, ρ0, k1, k2, k3, k4⟩ := hto w I ρ a.tmps hi ht
  refine wpIn_loop_by (fun g a' w' => inv g ∧ ∃ I' ρ', ExtW w I ρ w' I' ρ' ∧ Inv P w' I' ρ' (Hs g) ∧ TRel P w' I' ρ' N (S g) a'.tmps ∧ Marks κ B w' I' ρ' a'.defers) μ g0 ⟨h0, I0, ρ0, k1, k2, k3, hm.to k1 k4⟩ ?_
  rintro g a' w' ⟨hg, I', ρ', he, hi', ht', hm'⟩
  refine wpIn_mono (round g hg B w' I' ρ' a' hi' ht' hm') ?_
  rintro e a2 w2 ⟨z, J, σ, T1, H1, h1, h2, h3, h4, h5, h6⟩
  cases z <;> cases e <;> first | exact h1.elim | skip
  · obtain ⟨g', h7, h8, h9⟩ := h2
    obtain ⟨I3, ρ3, m1, m2, m3, m4⟩ := h9 w2 J σ a2.tmps h4 h5
    exact ⟨g', ⟨h7, I3, ρ3, (he.trans h3).trans m1, m2, m3, h6.to m1 m4⟩, h8⟩
  all_goals exact ⟨_, J, σ, T1, H1, h1, h2, he.trans h3, h4, h5, h6⟩

/-! ### Calls that keep some places -/
def ACallsK (P : Program) (κ : Nat) (f : FuncId) (args : List V) (H : List Blk) (Q : V → List Blk → Prop) : Prop :=
  ∀ (B : List Nat) w I ρ us, Inv P w I ρ H → RelVL P w I ρ args us → B <+: ρ → B.length ≤ κ →
    CallsIn Fence.wide 0 P f us.toArray w fun e w' => ∃ u v I' ρ' H', e = .returned u ∧ Q v H' ∧ ExtW w I ρ w' I' ρ' ∧ Inv P w' I' ρ' H' ∧ RelV P w' I' ρ' v u ∧ B <+: ρ'

theorem ACallsK.of_body {f : FuncId} {fn : Func} {c : Code} {args : List V} {Qr : V → List Blk → Prop} (hf : P.funcs[f]? = some fn) (hb : fn.body = some c) (hN : fn.ntmps = N) (hn : args.length ≤ N)
    (h : AWp P none N κ c (FinO P N fn Qr) (slotsAt 0 args) H) : ACallsK P κ f args H Qr := by
  subst hN
  intro B w I ρ us hi hus hBp hBκ
  have hl := RelVL.length hus
  refine callsIn_of_wp_marks hf hb trivial ?_ rfl
  have ht : TRel P w I ρ fn.ntmps (slotsAt 0 args) (us.toArray ++ Array.replicate (fn.ntmps - us.toArray.size) undef) := by
    refine ⟨by simp; omega, fun s v hv => ?_⟩
    have := slotsAt_rel args us 0 [] (List.replicate (fn.ntmps - us.length) undef) rfl hus s v hv
    have e : us.toArray ++ Array.replicate (fn.ntmps - us.toArray.size) undef = ([] ++ us ++ List.replicate (fn.ntmps - us.length) undef).toArray := by simp
    rw [e]; exact this
  refine wpIn_mono (h ⟨w.heap.size, B, []⟩ w I ρ { tmps := us.toArray ++ Array.replicate (fn.ntmps - us.toArray.size) undef, defers := [] } hi ht ⟨Nat.le_refl _, hBκ, hBp, [], rfl, List.nodup_nil, fun _ h => by cases h⟩) ?_
  rintro e a' w' ⟨z, I', ρ', T', H', h1, ⟨h2, v, hv, hq⟩, h3, h4, h5, hB, _, hpre, rs, h6, h7, h8⟩
  have fin : LeavesInM Fence.wide 0 P fn a'.tmps (fun e w' => ∃ u v I' ρ' H', e = .returned u ∧ Qr v H' ∧ ExtW w I ρ w' I' ρ' ∧ Inv P w' I' ρ' H' ∧ RelV P w' I' ρ' v u ∧ B <+: ρ') a'.defers .returning w' := by
    rw [h6]
    show LeavesInM _ _ _ _ _ _ (_ ++ []) _ _
    rw [List.append_nil]
    refine leaves_marks rs w' h7 (fun r hr => (h8 r hr).1) ?_
    intro w2 k1 k2 k3 k4 k5
    have kI : ∀ b, I' b → w2.heap[b]? = w'.heap[b]? := fun b hb => k1 b (fun hm => (h8 b hm).2.1 hb)
    have kρ : ∀ b : Nat, w'.heap[b]? ≠ some (Obj.deferred (some [])) → w2.heap[b]? = w'.heap[b]? := fun b hb => k1 b (fun hm => hb (h8 b hm).1)
    have ks : ∀ b s, w'.shape? b = some s → w2.shape? b = some s := fun b s hs => by
      refine (shape_of_block (k1 b (fun hm => ?_))).trans hs
      have := (h8 b hm).1
      simp [World.shape?, this] at hs
    have hi2 : Inv P w2 I' ρ' H' := h4.marks k5 kI kρ ks
    have ht2 : TRel P w2 I' ρ' fn.ntmps T' a'.tmps := ⟨h5.size, fun s x hx => RelV.mono (fun _ h => h) kI (List.prefix_refl _) (fun b _ s h => ks b s h) x _ (h5.at_ s x hx)⟩
    obtain ⟨u, hu1, hu2⟩ := hv w2 I' ρ' a'.tmps hi2 ht2
    refine ⟨u, hu1, u, v, I', ρ', H', rfl, hq, ?_, hi2, hu2, hpre⟩
    have hlow : ∀ b, b < w.heap.size → w2.heap[b]? = w'.heap[b]? := fun b hb => k1 b (fun hm => by have := (h8 b hm).2.2; simp only at this; omega)
    exact ⟨k2.trans h3.os, k3.trans h3.tape, k4.trans h3.output, by rw [k5]; exact h3.size, fun b hb hn => (hlow b hb).trans (h3.keep b hb hn),
      fun b s hs => ks b s (h3.shape b s hs), h3.imm, fun b hb => (kI b (h3.imm b hb)).trans (h3.immKeep b hb), h3.immNew, fun b hb => (h3.nf b hb).imp_right fun h => h.of (kI b hb), fun b hb => (hlow b (Array.getElem?_eq_some_iff.1 hb).1).trans (h3.defKeep b hb), h3.defI, h3.new⟩
  rcases h2 with rfl | rfl <;> cases e <;> first | exact h1.elim | exact fin
end
end Go.AF
end

/-! ## Ranges over functions, over abstract states. -/
section
set_option linter.unusedVariables false
set_option linter.unusedSimpArgs false
set_option linter.unnecessarySimpa false
namespace Go.AF
section
variable {P : Program} {R : Option Nat} {N κ : Nat} {Q Q' : Post} {T T' T2 T3 : Tm} {H H' H2 H3 : List Blk} {o : Oper} {ops : Array Oper} {rest : List Oper}

/-- yield, as a value. -/
def yieldV (l : Nat) : V := .p (.func (.yield l) [] [])

/-- What one round does to the own blocks; what yield hands back. -/
def BodyOk (P : Program) (l κ : Nat) (h : List Blk) (args : List V) (Qb : Bool → List Blk → Prop) : Prop :=
  ∀ (B : List Nat) w I ρ us, Inv P w I ρ h → RelVL P w I ρ args us → B <+: ρ → B.length ≤ κ →
    ∃ fn tmps asg body, (Instr.yield l us.toArray).run P w = .ok (.round l fn tmps asg body) w ∧
      RoundIn Fence.wide 0 P l fn tmps asg body w fun e w' => ∃ b I' ρ' h', e = .returned (.bool b) ∧ Qb b h' ∧ ExtW w I ρ w' I' ρ' ∧ Inv P w' I' ρ' h' ∧ B <+: ρ'

/-- A function that yields xs, one after the other, as long as it is told to go on. -/
def ASeq (P : Program) (f : FuncId) (mk : V → List V) (xs : List (List V)) : Prop :=
  ∀ (l κ n : Nat) (inv : Nat → List Blk → Prop) (fin : List Blk → Prop), κ ≤ n → (∀ k h, inv k h → h.length = n) → (∀ h, fin h → h.length = n) →
    (∀ k h x, inv k h → xs[k]? = some x → BodyOk P l κ h x fun b h' => if b = true then inv (k + 1) h' else fin h') →
    ∀ h0, inv 0 h0 → ACallsK P κ f (mk (yieldV l)) h0 fun _ h' => inv xs.length h' ∨ fin h'

def pureV : V → V
  | .p x => .p x
  | _ => .top
def pureT : Tm → Tm
  | [] => []
  | (s, v) :: r => (s, pureV v) :: pureT r
theorem lk_pureT : ∀ (T : Tm) (s : Nat), lk (pureT T) s = (lk T s).map pureV
  | [], s => rfl
  | (a, v) :: r, s => by
    simp only [pureT, lk]
    cases Nat.beq a s with
    | true => rfl
    | false => exact lk_pureT r s
theorem pureV_rel {w w' : World} {I I' : Nat → Prop} {ρ ρ' : List Nat} (h : ExtW w I ρ w' I' ρ') {v : V} {u : Value} (hv : RelV P w I ρ v u) : RelV P w' I' ρ' (pureV v) u := by
  cases v <;> first | trivial | skip
  exact Rel.mono h.imm h.immKeep _ u hv
theorem TRel.pureT {w w' : World} {I I' : Nat → Prop} {ρ ρ' : List Nat} {tmps : Array Value} (h : ExtW w I ρ w' I' ρ') (t : TRel P w I ρ N T tmps) : TRel P w' I' ρ' N (AF.pureT T) tmps :=
  ⟨t.size, fun s v hv => by
    rw [lk_pureT, Option.map_eq_some_iff] at hv
    obtain ⟨v0, h1, rfl⟩ := hv
    exact pureV_rel h (t.at_ s v0 h1)⟩

theorem Marks.extW {B : Base} {w w' : World} {I I' : Nat → Prop} {ρ ρ' : List Nat} {ds : List Deferred} (h : ExtW w I ρ w' I' ρ') (hp : B.pre <+: ρ') (m : Marks κ B w I ρ ds) : Marks κ B w' I' ρ' ds := by
  obtain ⟨hB, hκ, _, rs, h1, h2, h3⟩ := m
  refine ⟨Nat.le_trans hB h.size, hκ, hp, rs, h1, h2, fun r hr => ?_⟩
  obtain ⟨h4, h5, h6⟩ := h3 r hr
  exact ⟨h.defKeep r h4, fun h7 => h5 (h.defI r h4 h7), h6⟩

theorem roundIn_fr {n l : Nat} {f : FuncId} {tmps : Array Value} {asg body : Code} {w : World} {Rr : Ending → World → Prop} (R : Option Nat) (h : RoundIn Fence.wide n P l f tmps asg body w Rr) : RoundIn (Fr R) n P l f tmps asg body w Rr := h

/-- A call of yield. -/
theorem AList.yield (d : Nat) {l : Nat} {f : Operand} {xs : Array Operand} {ts : Array TypeId} {vs : List V} {Qb : Bool → List Blk → Prop} (ho : o.op = .call { callee := .value f, args := xs, argTypes := ts }) (hd : o.dst = some d) (hN : dstOk N (some d) = true) (hg : o.guard = none)
    (hf : ev T f = some (yieldV l)) (hxs : evs T xs.toList = some vs) (hb : BodyOk P l κ H vs Qb)
    (next : ∀ b h', Qb b h' → AList P R N κ ops rest Q ((d, .p (.bool b)) :: pureT T) h') : AList P R N κ ops (o :: rest) Q T H := by
  intro QX B w I ρ a hi ht hm hq
  refine wpListIn_plain hg fun K hK => ⟨about_wide, ?_⟩
  rw [semAt_plain _ _ _ (by simp [ho])]
  have h1 := ht.ev hf
  have h2 := ht.evs hxs
  obtain ⟨us, vs', hu, h3, h4⟩ := h1
  simp only [RelL] at h3 h4
  have hus : us = #[] := by simpa using h3
  have hvs' : vs' = #[] := by simpa using h4
  subst hus hvs'
  obtain ⟨fn, tmps, asg, body, hy, hr⟩ := hb B.pre w I ρ _ hi h2 hm.2.2.1 hm.2.1
  have e : (execOp a.eval o).run P w = .ok (.round l fn tmps asg body) w := by
    rw [← hy]
    simp [execOp, ho, resolve, hu, Deferred.ofValue, invoke, ← Array.toList_map]
  rw [e]
  refine ⟨(fun h => by cases h), RoundIn.mono (roundIn_fr _ hr) ?_⟩
  rintro e w' ⟨b, I', ρ', h', rfl, h5, h6, h7, h8⟩
  have hto := ht.pureT h6
  have hput : TRel P w' I' ρ' N (setT (pureT T) o.dst (.p (.bool b))) (a.put o.dst (.bool b)).tmps := TRel.put (by rw [hd]; exact hN) hto (by simp [RelV, Rel])
  rw [hd] at hput
  refine hK _ _ ?_
  rw [hd]
  exact next b h' h5 QX B w' I' ρ' _ h7 hput (hm.extW h6 h8).put fun e a2 w2 q => hq e a2 w2 (QC.ext h6 q)

/-! ### The statement -/
def setPs : Tm → List Tmp → List V → Tm
  | T, p :: ps, x :: xs => setPs ((p, x) :: T) ps xs
  | T, _, _ => T

theorem setPs_rel {w : World} {I : Nat → Prop} {ρ : List Nat} : ∀ (ps : List Tmp) (xs : List V) (us : List Value) (T : Tm) (tmps : Array Value), (∀ p ∈ ps, p < N) → RelVL P w I ρ xs us → TRel P w I ρ N T tmps →
    TRel P w I ρ N (setPs T ps xs) ((ps.zip us).foldl (fun t (p, v) => t.setIfInBounds p v) tmps)
  | [], xs, us, T, tmps, _, _, ht => by cases xs <;> simpa [setPs] using ht
  | p :: ps, [], us, T, tmps, _, hx, ht => by
    simp [RelVL] at hx
    subst hx
    simpa [setPs] using ht
  | p :: ps, x :: xs, us, T, tmps, hp, hx, ht => by
    obtain ⟨u, us', rfl, h1, h2⟩ := hx
    simp only [setPs, List.zip_cons_cons, List.foldl_cons]
    refine setPs_rel ps xs us' _ _ (fun q hq => hp q (by simp [hq])) h2 ?_
    have := TRel.put (a := { tmps := tmps, defers := [] }) (dst := some p) (v := x) (u := u) (by simpa [dstOk, Nat.blt, Nat.lt_iff_add_one_le] using hp p (by simp)) ht h1
    simpa [setT, Act.put] using this

theorem Inv.kill {w : World} {I : Nat → Prop} {ρ : List Nat} (hi : Inv P w I ρ H) (i : Nat) : Inv P w I ρ (H.set i .dead) := by
  have hat : ∀ (j : Nat) (x : Blk), (H.set i .dead)[j]? = some x → x.live = true → H[j]? = some x := fun j x h hl => by
    rw [List.getElem?_set] at h
    split at h
    · split at h
      · cases h; cases hl
      · cases h
    · exact h
  refine ⟨by simp [hi.len], fun j b blk h1 h2 h3 => hi.bnd j b blk h1 (hat j blk h2 h3) h3, hi.ib, fun j b blk h1 h2 h3 => hi.live j b blk h1 (hat j blk h2 h3) h3, fun j k b x y h1 h2 h3 h4 h5 h6 => hi.dist j k b x y h1 h2 (hat j x h3 h5) (hat k y h4 h6) h5 h6, fun j b blk h1 h2 => ?_, hi.gl⟩
  cases hl : blk.live with
  | false => exact RelB.dead_of hl
  | true => exact hi.rel j b blk h1 (hat j blk h2 hl)

/-- The record at its place. -/
theorem loop_at {w : World} {I : Nat → Prop} {ρ : List Nat} {n : Nat} {r : LRec} {st : LoopState} {pe : Option Code} (hi : Inv P w I ρ H) (hH : H[n]? = some (.loop r st pe)) :
    ρ[n]? = some r.l ∧ (∃ fn d, w.heap[r.l]? = some (.loop { state := st, pending := pe, fn, tmps := r.tmps, params := r.ps, assign := r.asg, body := r.body, defers := d })) ∧ ∀ s v, lk r.T s = some v → RelV P w I ρ v (r.tmps.getD s undef) := by
  have hlt : n < ρ.length := by rw [hi.len]; exact (List.getElem?_eq_some_iff.1 hH).1
  have hρ : ρ[n]? = some ρ[n] := List.getElem?_eq_getElem hlt
  obtain ⟨h1, h2, h3⟩ := hi.rel n _ _ hρ hH
  rw [h1] at hρ h2
  exact ⟨hρ, h2, h3⟩

/-- The record turns. -/
theorem loop_turn {w : World} {I : Nat → Prop} {ρ : List Nat} {n : Nat} {r : LRec} {st st' : LoopState} {pe pe' : Option Code} {fn : FuncId} {d : Nat} (hi : Inv P w I ρ H) (hH : H[n]? = some (.loop r st pe))
    (hw : w.heap[r.l]? = some (.loop { state := st, pending := pe, fn, tmps := r.tmps, params := r.ps, assign := r.asg, body := r.body, defers := d })) :
    ∀ w', w' = w.putObj r.l (.loop { state := st', pending := pe', fn, tmps := r.tmps, params := r.ps, assign := r.asg, body := r.body, defers := d }) →
      Ext w I ρ w' I ρ ∧ Inv P w' I ρ (H.set n (.loop r st' pe')) := by
  intro w' hw'
  obtain ⟨hρ, _, hT⟩ := loop_at hi hH
  have hlt : r.l < w.heap.size := (Array.getElem?_eq_some_iff.1 hw).1
  have hsame : w'.heap[r.l]? = some (.loop { state := st', pending := pe', fn, tmps := r.tmps, params := r.ps, assign := r.asg, body := r.body, defers := d }) := by rw [hw']; exact World.putObj_heap_same hlt
  have hother : ∀ k, k ≠ r.l → w'.heap[k]? = w.heap[k]? := fun k hk => by rw [hw']; exact World.putObj_heap_other hk
  have hsh : ∀ s, w.shape? r.l = some s → w'.shape? r.l = some s := fun s hs => by simp [World.shape?, hw] at hs
  have hE : Ext w I ρ w' I ρ := Ext.write hi hρ hH rfl (by rw [hw']; rfl) (by rw [hw']; rfl) (by rw [hw']; rfl) (by rw [hw']; simp) hother hsh
  refine ⟨hE, Inv.write hi hρ hH rfl hE (by rw [hw']; simp) hother ⟨rfl, ⟨fn, d, hsame⟩, fun s v hv => (hT s v hv).ext hE⟩⟩

/-- The range's own call. -/
theorem run_rangeCall {w : World} {I : Nat → Prop} {ρ : List Nat} {a : Act} {g : Operand} {l : Nat} {fv : V} {f : FuncId} {all : List V} (hT : TRel P w I ρ N T a.tmps) (hg : ev T g = some fv) (hc : callee [yieldV l] fv = some (f, all)) (hf : realFn P f = true) :
    ∃ d us, RelVL P w I ρ all us ∧ (resolve a.eval (rangeCall g l) 0).run P w = .ok d w ∧ (invoke d.target d.args).run P w = .ok (.enter f us.toArray) w := by
  have h1 := hT.ev hg
  have hy : RelVL P w I ρ [yieldV l] [Value.func (.yield l) #[] #[]] := ⟨_, [], rfl, ⟨#[], #[], rfl, by simp [RelL], by simp [RelL]⟩, by simp [RelVL]⟩
  unfold callee at hc
  split at hc
  · rename_i f' fi ca
    simp at hc
    obtain ⟨rfl, rfl⟩ := hc
    obtain ⟨us, vs', hu, h3, h4⟩ := h1
    refine ⟨{ target := .fn (.func f') vs', args := us ++ #[.func (.yield l) #[] #[]] }, us.toList ++ [Value.func (.yield l) #[] #[]] ++ vs'.toList, ?_, ?_, ?_⟩
    · have := RelVL.append (RelVL.append (RelVL.pure (P := P) (ρ := ρ).2 h3) hy) (RelVL.pure (P := P) (ρ := ρ).2 h4)
      simpa using this
    · have hu2 : a.eval (.const (.func (.yield l) #[] #[])) = .func (.yield l) #[] #[] := rfl
      simp [resolve, rangeCall, hu, hu2, Deferred.ofValue]
    · simp [invoke, run_callFunc hf]
  · rename_i f' fi ca
    simp at hc
    obtain ⟨rfl, rfl⟩ := hc
    obtain ⟨us, vs', hu, h3, h4⟩ := h1
    refine ⟨{ target := .fn (.func f') vs', args := us ++ #[.func (.yield l) #[] #[]] }, us.toList ++ [Value.func (.yield l) #[] #[]] ++ vs'.toList, ?_, ?_, ?_⟩
    · have := RelVL.append (RelVL.append h3 hy) h4
      simpa using this
    · have hu2 : a.eval (.const (.func (.yield l) #[] #[])) = .func (.yield l) #[] #[] := rfl
      simp [resolve, rangeCall, hu, hu2, Deferred.ofValue]
    · simp [invoke, run_callFunc hf]
  · cases hc

/-- How a round may end. -/
def RP (P : Program) (κ N : Nat) (r : LRec) (k : Nat) (J : Nat → List Blk → Prop) (Jx : Code → List Blk → Prop) : Post
  | .normal, T, H => ∃ h', J (k + 1) h' ∧ To P κ N T H [] (h' ++ [.loop r .busy none])
  | .ret, T, H => ∃ h', Jx .ret h' ∧ To P κ N T H [] (h' ++ [.loop r .busy none])
  | .exit id, T, H => ∃ h', Jx (.exit id) h' ∧ To P κ N T H [] (h' ++ [.loop r .busy none])
  | .panic _, _, _ => False

/-- The round's two parts: the assignment to the loop's variables, and its body. -/
def Round (P : Program) (N κ : Nat) (r : LRec) (k n : Nat) (J : Nat → List Blk → Prop) (Jx : Code → List Blk → Prop) (T : Tm) (H : List Blk) : Prop :=
  AWp P (some r.l) N κ r.asg (fun x T1 H1 => x = .normal ∧ H1[n]? = some (.loop r .ready none) ∧ AWp P (some r.l) N κ r.body (RP P κ N r k J Jx) T1 (H1.set n (.loop r .busy none))) T H

theorem set_last {α : Type} (l : List α) (x y : α) : (l ++ [x]).set l.length y = l ++ [y] := by simp

theorem Round.ok {r : LRec} {k n : Nat} {J : Nat → List Blk → Prop} {Jx : Code → List Blk → Prop} {h : List Blk} {xs : List V} (hn : h.length = n) (hJ : ∀ h, J (k + 1) h → h.length = n) (hJx : ∀ c h, Jx c h → h.length = n) (hps : xs.length = r.ps.size) (hlt : ∀ p ∈ r.ps.toList, p < N) (hN : r.tmps.size = N)
    (hr : Round P N κ r k n J Jx (setPs r.T r.ps.toList xs) (h ++ [.loop r .ready none])) :
    BodyOk P r.l κ (h ++ [.loop r .ready none]) xs fun b h' => if b = true then ∃ h0, J (k + 1) h0 ∧ h' = h0 ++ [.loop r .ready none] else ∃ h0 c, Jx c h0 ∧ h' = h0 ++ [.loop r .done (some c)] := by
  intro B w I ρ us hi hus hB hBκ
  have hat : (h ++ [Blk.loop r .ready none])[n]? = some (.loop r .ready none) := by subst hn; simp
  obtain ⟨hρ, ⟨fn, d, hl⟩, hT⟩ := loop_at hi hat
  have hlen := RelVL.length hus
  refine ⟨fn, _, r.asg, r.body, run_yield hl (by simp [hlen, hps]), ?_⟩
  refine roundIn_of_wpIn trivial ?_
  have ht0 : TRel P w I ρ N (setPs r.T r.ps.toList xs) ((r.ps.zip us.toArray).foldl (fun t (p, v) => t.setIfInBounds p v) r.tmps) := by
    have := setPs_rel r.ps.toList xs us r.T r.tmps hlt hus ⟨hN, hT⟩
    rw [← Array.foldl_toList]
    simpa using this
  have hstart := hr ⟨w.heap.size, B, []⟩ w I ρ { tmps := (r.ps.zip us.toArray).foldl (fun t (p, v) => t.setIfInBounds p v) r.tmps, defers := [] } hi ht0 ⟨Nat.le_refl _, hBκ, hB, [], rfl, List.nodup_nil, fun _ h => by cases h⟩
  refine wpIn_mono hstart ?_
  rintro e a1 w1 ⟨z, I1, ρ1, T1, H1, h1, ⟨rfl, h2, h3⟩, h4, h5, h6, h7⟩
  cases e <;> first | exact h1.elim | skip
  obtain ⟨hρ1, ⟨fn1, d1, hl1⟩, _⟩ := loop_at h5 h2
  refine ⟨_, run_beginRound hl1 rfl, ?_⟩
  obtain ⟨hE1, hi1⟩ := loop_turn (st' := .busy) (pe' := none) h5 h2 hl1 _ rfl
  refine wpIn_mono (h3 ⟨w.heap.size, B, []⟩ _ I1 ρ1 a1 hi1 (h6.ext hE1) (h7.ext hE1)) ?_
  rintro e a2 w2 ⟨z, I2, ρ2, T2, H2, k1, k2, k3, k4, k5, k6⟩
  have key : ∀ h', To P κ N T2 H2 [] (h' ++ [.loop r .busy none]) → h'.length = n → ∀ jump : Option Code, ∃ w3, (Instr.endRound r.l jump).run P w2 = .ok (.bool jump.isNone) w3 ∧
      ∃ I' ρ', ExtW w I ρ w3 I' ρ' ∧ Inv P w3 I' ρ' (h' ++ [.loop r (if jump.isNone then .ready else .done) jump]) ∧ B <+: ρ' := by
    intro h' hto hh' jump
    obtain ⟨I3, ρ3, m1, m2, m3, m4⟩ := hto w2 I2 ρ2 a2.tmps k4 k5
    have hat3 : (h' ++ [Blk.loop r .busy none])[n]? = some (.loop r .busy none) := by subst hh'; simp
    obtain ⟨_, ⟨fn3, d3, hl3⟩, _⟩ := loop_at m2 hat3
    obtain ⟨hE3, hi3⟩ := loop_turn (st' := if jump.isNone then .ready else .done) (pe' := jump) m2 hat3 hl3 _ rfl
    refine ⟨_, run_endRound jump hl3, I3, ρ3, ((h4.trans hE1.w).trans k3).trans (m1.trans hE3.w), ?_, m4 B k6.2.2.1 hBκ⟩
    subst hh'
    rw [set_last] at hi3
    exact hi3
  cases z <;> cases e <;> first | exact k1.elim | exact k2.elim | skip
  · obtain ⟨h', k7, k8⟩ := k2
    obtain ⟨w3, e1, I', ρ', e2, e3, e4⟩ := key h' k8 (hJ _ k7) none
    exact ⟨_, w3, e1, true, I', ρ', _, rfl, by show if true = true then _ else _; rw [if_pos rfl]; exact ⟨h', k7, rfl⟩, e2, e3, e4⟩
  · obtain ⟨h', k7, k8⟩ := k2
    obtain ⟨w3, e1, I', ρ', e2, e3, e4⟩ := key h' k8 (hJx _ _ k7) (some .ret)
    exact ⟨_, w3, e1, false, I', ρ', _, rfl, by show if false = true then _ else _; rw [if_neg (by simp)]; exact ⟨h', _, k7, rfl⟩, e2, e3, e4⟩
  · rename_i i j
    obtain rfl : i = j := k1
    obtain ⟨h', k7, k8⟩ := k2
    obtain ⟨w3, e1, I', ρ', e2, e3, e4⟩ := key h' k8 (hJx _ _ k7) (some (.exit i))
    exact ⟨_, w3, e1, false, I', ρ', _, rfl, by show if false = true then _ else _; rw [if_neg (by simp)]; exact ⟨h', _, k7, rfl⟩, e2, e3, e4⟩

theorem run_enterLoop_in {w : World} {l0 : Nat} {r0 : Loop} (h : w.heap[l0]? = some (.loop r0)) (fn : FuncId) (tmps : Array Value) (ps : Array Tmp) (asg body : Code) :
    (Instr.enterLoop fn tmps ps asg body (some l0)).run P w = .ok (w.heap.size, []) (w.alloc (.loop { state := .ready, pending := none, fn, tmps, params := ps, assign := asg, body, defers := r0.defers })) := by
  unfold Instr.enterLoop
  simp only [Sem.run_bind, run_getLoop h, run_newObj_alloc, Result.andThen, Sem.run_pure]

/-- A range over a function. -/
theorem AWp.rangeFunc {g : Operand} {ps : Array Tmp} {asg body : Code} {fv : V} {f : FuncId} {mk : V → List V} {xs : List (List V)} (κ2 : Nat) (hg : ev T g = some fv) (hc : ∀ y, callee [y] fv = some (f, mk y)) (hf : realFn P f = true) (hseq : ASeq P f mk xs)
    (hκ : κ ≤ κ2) (hκn : κ2 ≤ H.length) (hR : ∀ l0, R = some l0 → ∃ (i : Nat) (r0 : LRec) (st : LoopState) (pe : Option Code), r0.l = l0 ∧ H[i]? = some (.loop r0 st pe)) (hps : ∀ x ∈ xs, x.length = ps.size) (hlt : ps.toList.all (fun p => Nat.blt p N) = true)
    (J : Nat → List Blk → Prop) (Jx : Code → List Blk → Prop) (hJ : ∀ k h, J k h → h.length = H.length) (hJx : ∀ c h, Jx c h → h.length = H.length) (h0 : J 0 H)
    (round : ∀ l tmps k h x, J k h → xs[k]? = some x → Round P N κ2 ⟨l, tmps, T, ps, asg, body⟩ k H.length J Jx (setPs T ps.toList x) (h ++ [.loop ⟨l, tmps, T, ps, asg, body⟩ .ready none]))
    (done : ∀ h, J xs.length h → Q .normal T (h ++ [.dead])) (stop : ∀ c h, Jx c h → AWp P R N κ c Q T (h ++ [.dead])) : AWp P R N κ (.rangeFunc g ps asg body) Q T H := by
  intro B w I ρ a hi ht hm
  refine wpIn_rangeFunc ?_
  intro fn _
  -- the record
  have entry : ∃ (l : Nat) (mark : List Deferred) (w1 : World), (Instr.enterLoop fn a.tmps ps asg body R).run P w = .ok (l, mark) w1 ∧ Ext w I ρ w1 I (ρ ++ [l]) ∧
      Inv P w1 I (ρ ++ [l]) (H ++ [.loop ⟨l, a.tmps, T, ps, asg, body⟩ .ready none]) ∧ Marks κ B w1 I (ρ ++ [l]) (mark ++ a.defers) := by
    cases R with
    | none =>
      have hi1 := Inv.allocJunk hi (.deferred (some []))
      have he1 := Ext.allocJunk hi (.deferred (some []))
      let ob : Obj := .loop { state := .ready, pending := none, fn, tmps := a.tmps, params := ps, assign := asg, body, defers := w.heap.size }
      have he2 : Ext (w.alloc (.deferred (some []))) I ρ _ I _ := Ext.allocOwn hi1 ob
      have hE := he1.trans he2
      have hsz : (w.alloc (.deferred (some []))).heap.size = w.heap.size + 1 := by simp
      rw [hsz] at hE
      refine ⟨w.heap.size + 1, _, _, run_enterLoop_outer fn a.tmps ps asg body, hE, ?_, ?_⟩
      · have hx : RelB P ((w.alloc (.deferred (some []))).alloc ob) I (ρ ++ [w.heap.size + 1]) (.loop ⟨w.heap.size + 1, a.tmps, T, ps, asg, body⟩ .ready none) (w.heap.size + 1) := by
          refine ⟨rfl, ⟨fn, w.heap.size, ?_⟩, fun s v hv => (ht.at_ s v hv).ext hE⟩
          have := heap_alloc_new (w.alloc (.deferred (some []))) ob
          rw [hsz] at this
          exact this
        have := Inv.allocOwn hi1 ob (blk := .loop ⟨w.heap.size + 1, a.tmps, T, ps, asg, body⟩ .ready none) (by rw [hsz]; exact hx)
        rwa [hsz] at this
      · obtain ⟨h1, h2, h3, rs, h4, h5, h6⟩ := hm.ext hE
        refine ⟨h1, h2, h3, w.heap.size :: rs, by simp [h4], List.nodup_cons.2 ⟨fun hmem => ?_, h5⟩, fun r hr => ?_⟩
        · obtain ⟨rs', g4, g5, g6⟩ := hm.2.2.2
          have e : rs' = rs := by
            have := List.append_cancel_right (g4.symm.trans h4)
            exact (List.map_inj_right (fun x y hxy => by simpa using hxy)).1 this
          subst e
          have := (Array.getElem?_eq_some_iff.1 (g6 _ hmem).1).1
          omega
        · rcases List.mem_cons.1 hr with rfl | hr
          · refine ⟨?_, fun hI => by have := hi.ib _ hI; omega, hm.1⟩
            rw [heap_alloc_old _ _ (by simp)]
            exact heap_alloc_new w _
          · exact h6 r hr
    | some l0 =>
      obtain ⟨i, r0, st, pe, hl0, hH0⟩ := hR l0 rfl
      obtain ⟨_, ⟨fn0, d0, hw0⟩, _⟩ := loop_at hi hH0
      rw [hl0] at hw0
      let ob : Obj := .loop { state := .ready, pending := none, fn, tmps := a.tmps, params := ps, assign := asg, body, defers := d0 }
      have hE : Ext w I ρ (w.alloc ob) I (ρ ++ [w.heap.size]) := Ext.allocOwn hi ob
      refine ⟨w.heap.size, [], _, run_enterLoop_in hw0 fn a.tmps ps asg body, hE, Inv.allocOwn hi ob ⟨rfl, ⟨fn, d0, heap_alloc_new w ob⟩, fun s v hv => (ht.at_ s v hv).ext hE⟩, hm.ext hE⟩
  obtain ⟨l, mark, w1, hen, hE, hi1, hm1⟩ := entry
  obtain ⟨d, us, hus, hres, hinv⟩ := run_rangeCall (ht.ext hE) hg (hc (yieldV l)) hf
  refine ⟨l, mark, w1, d, w1, f, us.toArray, w1, hen, hres, (fun _ _ => trivial), hinv, (fun h => by cases h), ?_⟩
  have hlen1 : ∀ k h, (∃ h0, J k h0 ∧ h = h0 ++ [Blk.loop ⟨l, a.tmps, T, ps, asg, body⟩ .ready none]) → h.length = H.length + 1 := by
    rintro k h ⟨h0, h1, rfl⟩
    simp [hJ k h0 h1]
  have hcall := hseq l κ2 (H.length + 1) (fun k h => ∃ h0, J k h0 ∧ h = h0 ++ [Blk.loop ⟨l, a.tmps, T, ps, asg, body⟩ .ready none]) (fun h => ∃ h0 c, Jx c h0 ∧ h = h0 ++ [Blk.loop ⟨l, a.tmps, T, ps, asg, body⟩ .done (some c)])
    (by omega) hlen1 (by rintro h ⟨h0, c, h1, rfl⟩; simp [hJx c h0 h1]) (by
      rintro k h x ⟨h0, h1, rfl⟩ hx
      have := Round.ok (r := ⟨l, a.tmps, T, ps, asg, body⟩) (hJ k h0 h1) (hJ (k + 1)) hJx (hps x (List.mem_of_getElem? hx)) (fun p hp => by
        have := (List.all_eq_true.1 hlt) p hp
        simpa [Nat.blt, Nat.lt_iff_add_one_le] using this) ht.size (round l a.tmps k h0 x h1 hx)
      exact this) _ ⟨H, h0, rfl⟩ B.pre w1 I (ρ ++ [l]) us hi1 hus (hm1.2.2.1) (Nat.le_trans hm1.2.1 hκ)
  refine CallsIn.mono (callsIn_fr R hcall) ?_
  rintro e w3 ⟨u, v, I3, ρ3, H3, rfl, hfin, h1, h2, h3, h4⟩
  have hback : ∀ (h' : List Blk) (st : LoopState) (pe : Option Code), h'.length = H.length → st ≠ .busy → H3 = h' ++ [.loop ⟨l, a.tmps, T, ps, asg, body⟩ st pe] →
      ∃ w4, (Instr.endLoop l).run P w3 = .ok pe w4 ∧ ExtW w I ρ w4 I3 ρ3 ∧ Inv P w4 I3 ρ3 (h' ++ [.dead]) ∧ TRel P w4 I3 ρ3 N T a.tmps ∧ Marks κ B w4 I3 ρ3 (mark ++ a.defers) := by
    rintro h' st pe hl' hst rfl
    have hat : (h' ++ [Blk.loop ⟨l, a.tmps, T, ps, asg, body⟩ st pe])[H.length]? = some (.loop ⟨l, a.tmps, T, ps, asg, body⟩ st pe) := by rw [← hl']; simp
    obtain ⟨_, ⟨fn3, d3, hl3⟩, hT3⟩ := loop_at h2 hat
    obtain ⟨hE3, hi3⟩ := loop_turn (st' := .exhausted) (pe' := pe) h2 hat hl3 _ rfl
    refine ⟨_, run_endLoop hl3 hst, (hE.w.trans h1).trans hE3.w, ?_, ⟨ht.size, fun s v hv => (hT3 s v hv).ext hE3⟩, (hm1.extW h1 h4).ext hE3⟩
    have := hi3.kill H.length
    rw [← hl', set_last, set_last] at this
    exact this
  rcases hfin with ⟨h', hj, rfl⟩ | ⟨h', c, hj, rfl⟩
  · obtain ⟨w4, e1, e2, e3, e4, e5⟩ := hback h' .ready none (hJ _ _ hj) (by simp) rfl
    exact ⟨none, w4, e1, .normal, I3, ρ3, T, _, trivial, done h' hj, e2, e3, e4, e5⟩
  · obtain ⟨w4, e1, e2, e3, e4, e5⟩ := hback h' .done (some c) (hJx _ _ hj) (by simp) rfl
    exact ⟨some c, w4, e1, wpIn_mono (stop c h' hj B w4 I3 ρ3 { a with defers := mark ++ a.defers } e3 e4 e5) fun _ _ _ q => QC.ext e2 q⟩
end
end Go.AF
end

/-! ## Maps, over abstract states. -/
section
set_option linter.unusedVariables false
set_option linter.unusedSimpArgs false
set_option linter.unnecessarySimpa false
set_option linter.unusedSectionVars false
namespace Go.AF

section
variable {K α : Type} [DecidableEq K]
end

section
variable {P : Program} {R : Option Nat} {N κ : Nat} {Q Q' : Post} {T T' T2 T3 : Tm} {H H' H2 H3 : List Blk} {o : Oper} {ops : Array Oper} {rest : List Oper}
variable {K α : Type} [DecidableEq K] {enc : K → PV} {g : α → V} {gp : α → PV} {d : TypeDesc}


end
end Go.AF
end

/-! ## Slices that grow from nothing; equality of structs and arrays. -/
section
set_option linter.unusedVariables false
set_option linter.unusedSimpArgs false
set_option linter.unnecessarySimpa false
set_option linter.unusedSectionVars false
namespace Go.AF
section
variable {P : Program} {R : Option Nat} {N κ : Nat} {Q Q' : Post} {T T' T2 T3 : Tm} {H H' H2 H3 : List Blk} {o : Oper} {ops : Array Oper} {rest : List Oper}

/-- Appending to nil. -/
theorem OpJ.appendNil {x y : Operand} {t t2 e : TypeId} {z : List PV} {n by_ : Nat} {ys : List V} {yv : V} (ho : o.op = .call { callee := .builtin .append, args := #[x, y], argTypes := #[t, t2] }) (hx : ev T x = some (.p .nilSlice)) (hy : ev T y = some yv) (hs : slI P t = some (e, z)) (ht2 : isSl P t2 = true)
    (hsrc : asrc H z.length yv = some (ys, n)) (hn : 0 < n) (hone : ys.all oneV = true) (hby : byI P e = some by_) (hb0 : 0 < by_) (hb : (2 * n + 192) * by_ ≤ 281474976710656) :
    OpJ P N o T H (.row H.length n) (H ++ [.row ys e]) :=
  OpJ.of_run (by simp [ho]) fun w I ρ a hi hT => by
    obtain ⟨hu, ⟨bb, htk⟩, hz0, hz⟩ := slI_some hs
    have hxu : a.eval x = .slice none 0 0 := hT.ev hx
    obtain ⟨us, ⟨ad, ycap, hyu⟩, hfc, _, hrel, hlen⟩ := run_asrc hi (hT.ev hy) hsrc
    have hce : P.cellsOf e = z.length := by
      obtain ⟨d, inf, _, h5, _, h6⟩ := tyI_some htk
      simp [Program.cellsOf, h5, h6]
    have hinfo : ∃ inf, P.info? e = some inf ∧ inf.bytes = by_ := by
      unfold byI at hby
      cases h : P.info? e with
      | none => rw [h] at hby; cases hby
      | some inf => rw [h] at hby; simp at hby; exact ⟨inf, rfl, hby⟩
    obtain ⟨inf, hinf, hbyt⟩ := hinfo
    have hd2 : ∃ d2, P.underlying t2 = some (.slice d2) := by
      cases h : P.underlying t2 with
      | none => simp [isSl, h] at ht2
      | some d => cases d <;> simp [isSl, h] at ht2; exact ⟨_, rfl⟩
    obtain ⟨d2, hd2⟩ := hd2
    have hyl := RelVL.length hrel
    have hcut : ∀ q, 0 + n ≤ (Question.appendCap (0 + n) 0 e).cut q := fun q => Nat.le_add_right _ _
    obtain ⟨uz, hz1, hz2⟩ := hz w.drew
    have hzl := RelL.length (hz2 I)
    have hzsz : uz.cells.size = z.length := by simpa using hzl
    have hnext := nextcap_le (need := 0 + n) (cap := 0) (by omega)
    have hsmall : ¬ (Builtin.nextslicecap (0 + n) 0 * by_ > 2 ^ 48) := by
      have h1 := Nat.mul_le_mul_right by_ hnext
      have h2 : (2 : Nat) ^ 48 = 281474976710656 := by decide
      have h3 : 2 * (0 + n) + 192 = 2 * n + 192 := by omega
      rw [h3] at h1
      omega
    let newCap := (Question.appendCap (0 + n) 0 e).cut (w.tape w.drawn (.appendCap (0 + n) 0 e))
    have hnc : 0 + n ≤ newCap := hcut _
    have hnew := hfc w.drew (fun _ _ => rfl)
    let arr2 : Array Value := #[] ++ us.toArray ++ Builtin.zeroCells uz.cells (newCap - (0 + n))
    have hE1 : Ext w I ρ w.drew I ρ := Ext.drew
    have hi1 : Inv P w.drew I ρ H := hi.drew
    have hE2 : Ext w.drew I ρ (w.drew.alloc (.cells arr2 e)) I (ρ ++ [w.drew.heap.size]) := Ext.allocOwn hi1 _
    have hi2 : Inv P (w.drew.alloc (.cells arr2 e)) I (ρ ++ [w.drew.heap.size]) (H ++ [.row ys e]) := by
      refine Inv.allocOwn hi1 _ ⟨arr2, heap_alloc_new _ _, ?_, RelVL.ext hE2 (RelVL.ext hE1 ?_)⟩
      · simp only [arr2, Array.size_append]
        rw [← hyl]
        simp
      · have e1 : arr2.toList.take ys.length = us := by
          simp only [arr2, Array.toList_append]
          rw [List.nil_append, ← hyl, List.take_append_of_le_length (Nat.le_refl _)]
          exact List.take_length
        rw [e1]
        exact hrel
    refine ⟨.slice (some ⟨w.heap.size, 0, none⟩) (0 + n) newCap, w.drew.alloc (.cells arr2 e), I, ρ ++ [w.drew.heap.size], .inl ?_, hE1.trans hE2, hi2, w.heap.size, e, newCap, by rw [← hi.len]; simp, by rw [Nat.zero_add], ?_, by omega⟩
    · rw [hyu] at hnew
      have hneed : ((0 + n : Nat) : Int) ≤ IntKind.i64.max := by
        have h1 := Nat.le_mul_of_pos_right (2 * n + 192) hb0
        have h2 : IntKind.i64.max = 9223372036854775807 := by decide
        rw [h2]
        omega
      have hold : (Builtin.firstCells z.length 0 (.slice none 0 0)).run P w.drew = .ok #[] w.drew := by simp [Builtin.firstCells]
      have := run_append_grow (P := P) (w := w) (t := t) (t2 := t2) (ty := o.type) hu htk hd2 hinf (by rw [hbyt]; exact hsmall) hneed (by omega) hold hnew hz1
      simp only [execOp, ho, resolve, invoke, builtin, Sem.run_bind]
      simp only [Sem.run_pure, Result.andThen, List.map_toArray, List.map_cons, List.map_nil, hxu, hyu, Sem.run_bind, this]
      rfl
    · simp only [World.shape?]
      show (match (w.drew.alloc (.cells arr2 e)).heap[w.drew.heap.size]? with | some (.cells c elem _) => some (elem, c.size) | _ => none) = _
      rw [heap_alloc_new]
      simp only [arr2, Array.size_append, hce, Builtin.zeroCells]
      simp
      rw [hlen, hzsz, ← Nat.add_mul]
      congr 1
      omega

/-- A slice that is nil as long as it is empty. -/
def accV (i : Nat) : Nat → V
  | 0 => .p .nilSlice
  | n + 1 => .row i (n + 1)
def accB (cs : List V) (e : TypeId) : Nat → Blk
  | 0 => .dead
  | n + 1 => .row cs e
theorem accV_pos {i n : Nat} (h : 0 < n) : accV i n = .row i n := by
  cases n with
  | zero => omega
  | succ n => rfl
theorem accB_pos {cs : List V} {e : TypeId} {n : Nat} (h : 0 < n) : accB cs e n = .row cs e := by
  cases n with
  | zero => omega
  | succ n => rfl

theorem OpJ.appendAcc {x y : Operand} {t t2 e : TypeId} {z : List PV} {i len n by_ : Nat} {cs ys : List V} {yv : V} (ho : o.op = .call { callee := .builtin .append, args := #[x, y], argTypes := #[t, t2] }) (hx : ev T x = some (accV i len)) (hy : ev T y = some yv) (hs : slI P t = some (e, z)) (ht2 : isSl P t2 = true)
    (hH : H[i]? = some (accB cs e len)) (hcs : cs.length = len * z.length) (hsrc : asrc H z.length yv = some (ys, n)) (hn : 0 < n) (hone : ys.all oneV = true) (hby : byI P e = some by_) (hb0 : 0 < by_) (hb : (2 * (len + n) + 192) * by_ ≤ 281474976710656) :
    OpJ P N o T H (.row H.length (len + n)) (H.set i .dead ++ [.row (cs ++ ys) e]) := by
  cases len with
  | zero =>
    have h0 : cs = [] := List.eq_nil_of_length_eq_zero (by simpa using hcs)
    subst h0
    have h1 : H.set i .dead = H := by
      apply List.ext_getElem?
      intro j
      rw [List.getElem?_set]
      split
      · rename_i hij
        subst hij
        split
        · exact hH.symm
        · rename_i h; rw [List.getElem?_eq_none (by omega)]
      · rfl
    rw [h1, List.nil_append]
    have := OpJ.appendNil (N := N) ho hx hy hs ht2 hsrc hn hone hby hb0 (by simpa using hb)
    simpa using this
  | succ len => exact OpJ.appendRow ho hx hy hs ht2 hH hcs hsrc hone hby hb0 hb

/-- A slice that has grown becomes immutable; only one slot and what is immutable is kept. -/
theorem To.acc (s i n : Nat) {xs : List PV} {e : TypeId} (hs : lk T s = some (accV i n)) (hH : H[i]? = some (accB (xs.map .p) e n)) (h0 : n = 0 → xs = []) : To P κ N T H ((s, .p (.is xs n)) :: pureT T) (H.set i .dead) := by
  cases n with
  | zero =>
    have h := h0 rfl
    subst h
    have h1 : H.set i .dead = H := by
      apply List.ext_getElem?
      intro j
      rw [List.getElem?_set]
      split
      · rename_i hij
        subst hij
        split
        · exact hH.symm
        · rename_i h; rw [List.getElem?_eq_none (by omega)]
      · rfl
    rw [h1]
    intro w I ρ tmps hi ht
    refine ⟨I, ρ, ExtW.refl _ _ _, hi, ⟨ht.size, fun s' v hv => ?_⟩, fun _ h _ => h⟩
    simp only [lk] at hv
    cases hb : Nat.beq s s' with
    | false => rw [hb] at hv; exact (ht.pureT (ExtW.refl _ _ _)).at_ s' v hv
    | true =>
      rw [hb] at hv
      have := Nat.eq_of_beq_eq_true hb
      subst this
      simp at hv
      subst hv
      exact .inl ⟨⟨_, _, ht.at_ s _ hs⟩, rfl⟩
  | succ n =>
    intro w I ρ tmps hi ht
    obtain ⟨I', h1, h2, h3⟩ := frz_step (i := i) (xs := xs) hi (by rw [show H[i]? = some (.row (xs.map .p) e) from hH]; rfl) ht
    refine ⟨I', ρ, h1.w, h2, ⟨ht.size, fun s' v hv => ?_⟩, fun _ h _ => h⟩
    simp only [lk] at hv
    cases hb : Nat.beq s s' with
    | false => rw [hb] at hv; exact (ht.pureT h1.w).at_ s' v hv
    | true =>
      rw [hb] at hv
      have := Nat.eq_of_beq_eq_true hb
      subst this
      simp at hv
      subst hv
      have := h3.at_ s (frzV i xs (.row i (n + 1))) (by rw [lk_frzT, hs]; rfl)
      simpa [frzV] using this

/-! ### Equality -/
def leqV : TypeDesc → Value → Value → Option Bool
  | .int _, .int k a, .int k' b => if k = k' then some (a == b) else none
  | .bool, .bool a, .bool b => some (a == b)
  | .string, .string a, .string b => some (a == b)
  | _, _, _ => none
def leqs : List TypeDesc → List Value → List Value → Option Bool
  | [], [], [] => some true
  | t :: ts, u :: us, v :: vs => match leqV t u v, leqs ts us vs with
    | some a, some b => some (a && b)
    | _, _ => none
  | _, _, _ => none
def peq : TypeDesc → PV → PV → Option Bool
  | .int _, .int k a, .int k' b => if k = k' then some (a == b) else none
  | .bool, .bool a, .bool b => some (a == b)
  | .string, .str a, .str b => some (a == b)
  | _, _, _ => none
def peqs : List TypeDesc → List PV → List PV → Option Bool
  | [], [], [] => some true
  | t :: ts, u :: us, v :: vs => match peq t u v, peqs ts us vs with
    | some a, some b => some (a && b)
    | _, _ => none
  | _, _, _ => none
theorem peq_rel {w : World} {I : Nat → Prop} {t : TypeDesc} {x y : PV} {u v : Value} {r : Bool} (h : peq t x y = some r) (hx : Rel w I x u) (hy : Rel w I y v) : leqV t u v = some r := by
  unfold peq at h
  split at h
  · simp only [Rel] at hx hy; subst hx hy; exact h
  · simp only [Rel] at hx hy; subst hx hy; exact h
  · simp only [Rel] at hx hy; subst hx hy; exact h
  · cases h
theorem peqs_rel {w : World} {I : Nat → Prop} : ∀ {ts : List TypeDesc} {xs ys : List PV} {us vs : List Value} {r : Bool}, peqs ts xs ys = some r → RelL w I xs us → RelL w I ys vs → leqs ts us vs = some r
  | [], [], [], us, vs, r, h, hx, hy => by
    simp [RelL] at hx hy
    subst hx hy
    exact h
  | t :: ts, x :: xs, y :: ys, us, vs, r, h, hx, hy => by
    obtain ⟨u, us', rfl, h1, h2⟩ := hx
    obtain ⟨v, vs', rfl, h3, h4⟩ := hy
    simp only [peqs] at h
    split at h
    · rename_i a b h5 h6
      simp only [leqs, peq_rel h5 h1 h3, peqs_rel h6 h2 h4]
      exact h
    · cases h
  | [], _ :: _, _, _, _, _, h, _, _ => by simp [peqs] at h
  | [], [], _ :: _, _, _, _, h, _, _ => by simp [peqs] at h
  | _ :: _, [], _, _, _, _, h, _, _ => by simp [peqs] at h
  | _ :: _, _ :: _, [], _, _, _, h, _, _ => by simp [peqs] at h

def eqFs (g : TypeId → Option (List TypeDesc)) (P : Program) : List Field → Nat → Option (List TypeDesc)
  | [], _ => some []
  | f :: fs, off => match g f.type, tyI P f.type with
    | some l, some (b, n) => if f.offset = off ∧ f.name ≠ "_" ∧ n = l.length ∧ (b = false → n = 1) then (eqFs g P fs (off + n)).map (l ++ ·) else none
    | _, _ => none
/-- The cells of a type whose values are compared cell by cell. -/
def eqTy (P : Program) : Nat → TypeId → Option (List TypeDesc)
  | 0, _ => none
  | d + 1, t => match P.underlying t with
    | some (.int k) => some [.int k]
    | some .bool => some [.bool]
    | some .string => some [.string]
    | some (.struct fs) => if P.stoodInHeld t = true then none else eqFs (eqTy P d) P fs.toList 0
    | some (.array n e) => match eqTy P d e, tyI P e with
      | some l, some (b, m) => if m = l.length ∧ (b = false → m = 1) then some (List.replicate n l).flatten else none
      | _, _ => none
    | _ => none

/-- A value out of its cells. -/
def valOf (b : Bool) (us : List Value) : Value := if b then .agg us.toArray else us.headD undef
theorem run_part' {w : World} {t : TypeId} {b : Bool} {n off : Nat} {us : List Value} (ht : tyI P t = some (b, n)) (hb : b = false → n = 1) (hl : off + n ≤ us.length) : (part t us.toArray off).run P w = .ok (valOf b ((us.drop off).take n)) w := by
  cases b with
  | true =>
    have : (us.toArray.extract off (off + n)) = ((us.drop off).take n).toArray := by
      apply Array.toList_inj.1
      rw [extract_list]
    simp [part, run_isAgg' ht, run_sizeOf' ht, valOf, this]
  | false =>
    have hn := hb rfl
    subst hn
    have h1 : us[off]? = some (us[off]'(by omega)) := List.getElem?_eq_getElem _
    have h2 : ((us.drop off).take 1).headD undef = us[off]'(by omega) := by
      rw [List.drop_eq_getElem_cons (by omega)]
      rfl
    simp only [valOf, Bool.false_eq_true, if_false]
    rw [h2]
    simp [part, run_isAgg' ht, h1]
theorem leqs_len : ∀ {ts : List TypeDesc} {us vs : List Value} {r : Bool}, leqs ts us vs = some r → us.length = ts.length ∧ vs.length = ts.length
  | [], [], [], _, _ => ⟨rfl, rfl⟩
  | t :: ts, u :: us, v :: vs, r, h => by
    simp only [leqs] at h
    split at h
    · rename_i a b h5 h6
      obtain ⟨h1, h2⟩ := leqs_len h6
      simp [h1, h2]
    · cases h
  | [], _ :: _, _, _, h => by simp [leqs] at h
  | [], [], _ :: _, _, h => by simp [leqs] at h
  | _ :: _, [], _, _, h => by simp [leqs] at h
  | _ :: _, _ :: _, [], _, h => by simp [leqs] at h
theorem leqs_app : ∀ {l1 l2 : List TypeDesc} {us vs : List Value} {r : Bool}, leqs (l1 ++ l2) us vs = some r → ∃ r1 r2, leqs l1 (us.take l1.length) (vs.take l1.length) = some r1 ∧ leqs l2 (us.drop l1.length) (vs.drop l1.length) = some r2 ∧ r = (r1 && r2)
  | [], l2, us, vs, r, h => ⟨true, r, by simp [leqs], by simpa using h, by simp⟩
  | t :: l1, l2, us, vs, r, h => by
    cases us with
    | nil => simp [leqs] at h
    | cons u us =>
      cases vs with
      | nil => simp [leqs] at h
      | cons v vs =>
        simp only [List.cons_append, leqs] at h
        split at h
        · rename_i a b h5 h6
          obtain ⟨r1, r2, k1, k2, rfl⟩ := leqs_app h6
          simp at h
          refine ⟨a && r1, r2, ?_, by simpa using k2, by rw [← h, Bool.and_assoc]⟩
          simp [leqs, h5, k1]
        · cases h

theorem run_eqFs {g : TypeId → Option (List TypeDesc)} {d : Nat} {w : World} (hg : ∀ (t : TypeId) (l : List TypeDesc) (b : Bool) (n : Nat), g t = some l → tyI P t = some (b, n) → n = l.length → (b = false → n = 1) → ∀ us vs r, leqs l us vs = some r → (Op.equalIn d t (valOf b us) (valOf b vs)).run P w = .ok r w) :
    ∀ (fs : List Field) (off : Nat) (l : List TypeDesc) (us vs : List Value) (r : Bool), eqFs g P fs off = some l → off ≤ us.length → off ≤ vs.length → leqs l (us.drop off) (vs.drop off) = some r → (Op.eqFields d us.toArray vs.toArray fs).run P w = .ok r w
  | [], off, l, us, vs, r, h, hu, hv, hr => by
    simp [eqFs] at h
    subst h
    have h1 := leqs_len hr
    have h2 : us.drop off = [] := List.eq_nil_of_length_eq_zero h1.1
    have h3 : vs.drop off = [] := List.eq_nil_of_length_eq_zero h1.2
    rw [h2, h3] at hr
    simp [leqs] at hr
    simp [Op.eqFields, hr]
  | f :: fs, off, l, us, vs, r, h, hu, hv, hr => by
    simp only [eqFs] at h
    split at h
    · rename_i l1 b n h1 h2
      split at h
      · rename_i hc
        obtain ⟨rfl, hname, hn, hb⟩ := hc
        simp only [Option.map_eq_some_iff] at h
        obtain ⟨l2, h3, rfl⟩ := h
        obtain ⟨r1, r2, k1, k2, rfl⟩ := leqs_app hr
        have hlen := leqs_len hr
        simp only [List.length_drop, List.length_append] at hlen
        rw [← hn] at k1 k2 hlen
        rw [List.drop_drop, List.drop_drop] at k2
        have p1 := run_part' (P := P) (w := w) (off := f.offset) (us := us) h2 hb (by omega)
        have p2 := run_part' (P := P) (w := w) (off := f.offset) (us := vs) h2 hb (by omega)
        have p3 := hg f.type l1 b n h1 h2 hn hb _ _ _ k1
        have ih := run_eqFs hg fs (f.offset + n) l2 us vs r2 h3 (by omega) (by omega) k2
        simp only [Op.eqFields, hname, ne_eq, not_false_eq_true, if_true, Sem.run_bind, p1, p2, p3, Result.andThen_ok]
        cases r1
        · simp
        · simpa using ih
      · cases h
    · cases h

theorem run_eqItems' {d m : Nat} {e : TypeId} {l : List TypeDesc} {b : Bool} {w : World} (ht : tyI P e = some (b, m)) (hm : m = l.length) (hb : b = false → m = 1) (hg : ∀ us vs r, leqs l us vs = some r → (Op.equalIn d e (valOf b us) (valOf b vs)).run P w = .ok r w) :
    ∀ (n k : Nat) (us vs : List Value) (r : Bool), k * m ≤ us.length → k * m ≤ vs.length → leqs (List.replicate n l).flatten (us.drop (k * m)) (vs.drop (k * m)) = some r → (Op.eqItems d e m us.toArray vs.toArray (List.range' k n)).run P w = .ok r w
  | 0, k, us, vs, r, hu, hv, hr => by
    have h1 := leqs_len hr
    have h2 : us.drop (k * m) = [] := List.eq_nil_of_length_eq_zero h1.1
    have h3 : vs.drop (k * m) = [] := List.eq_nil_of_length_eq_zero h1.2
    rw [h2, h3] at hr
    simp [leqs] at hr
    simp [Op.eqItems, hr]
  | n + 1, k, us, vs, r, hu, hv, hr => by
    rw [List.replicate_succ, List.flatten_cons] at hr
    have hlen := leqs_len hr
    simp only [List.length_drop, List.length_append] at hlen
    obtain ⟨r1, r2, k1, k2, rfl⟩ := leqs_app hr
    rw [← hm] at k1 k2 hlen
    rw [List.drop_drop, List.drop_drop] at k2
    have e1 : k * m + m = (k + 1) * m := by rw [Nat.add_mul, Nat.one_mul]
    rw [e1] at k2
    have p1 := run_part' (P := P) (w := w) (off := k * m) (us := us) ht hb (by omega)
    have p2 := run_part' (P := P) (w := w) (off := k * m) (us := vs) ht hb (by omega)
    have p3 := hg _ _ _ k1
    have ih := run_eqItems' ht hm hb hg n (k + 1) us vs r2 (by omega) (by omega) k2
    simp only [List.range'_succ, Op.eqItems, Sem.run_bind, p1, p2, p3, Result.andThen_ok]
    cases r1
    · simp
    · simpa using ih

theorem run_eqTy {w : World} : ∀ (d : Nat) (t : TypeId) (l : List TypeDesc) (b : Bool) (n : Nat), eqTy P d t = some l → tyI P t = some (b, n) → n = l.length → (b = false → n = 1) → ∀ (k : Nat) (us vs : List Value) (r : Bool), leqs l us vs = some r → (Op.equalIn (d + k) t (valOf b us) (valOf b vs)).run P w = .ok r w
  | 0, _, _, _, _, h, _, _, _, _, _, _, _, _ => by simp [eqTy] at h
  | d + 1, t, l, b, n, h, ht, hn, hb, k, us, vs, r, hr => by
    obtain ⟨dd, inf, hu, hi, hagg, hsz⟩ := tyI_some ht
    have hlen := leqs_len hr
    unfold eqTy at h
    rw [show d + 1 + k = d + k + 1 by omega]
    rw [hu] at h
    have scalar : ∀ td : TypeDesc, l = [td] → isAggD dd = false → ∃ u v, us = [u] ∧ vs = [v] ∧ leqV td u v = some r ∧ b = false := by
      rintro td rfl hd
      simp at hlen
      obtain ⟨u, rfl⟩ := List.length_eq_one_iff.1 hlen.1
      obtain ⟨v, rfl⟩ := List.length_eq_one_iff.1 hlen.2
      refine ⟨u, v, rfl, rfl, ?_, by rw [← hagg, hd]⟩
      simp only [leqs] at hr
      split at hr
      · rename_i a c h5 h6
        simp at h6 hr
        subst h6
        simpa [h5] using hr
      · cases hr
    cases dd <;> simp only [Option.some.injEq] at h <;> try (cases h; done)
    case bool =>
      obtain ⟨u, v, rfl, rfl, h1, rfl⟩ := scalar _ h.symm rfl
      unfold leqV at h1
      split at h1 <;> simp at h1 <;> try contradiction
      subst h1
      simp [valOf, Op.equalIn, run_underlying hu]
    case int ik =>
      obtain ⟨u, v, rfl, rfl, h1, rfl⟩ := scalar _ h.symm rfl
      unfold leqV at h1
      split at h1 <;> simp at h1 <;> try contradiction
      obtain ⟨rfl, rfl⟩ := h1
      simp [valOf, Op.equalIn, run_underlying hu]
    case string =>
      obtain ⟨u, v, rfl, rfl, h1, rfl⟩ := scalar _ h.symm rfl
      unfold leqV at h1
      split at h1 <;> simp at h1 <;> try contradiction
      subst h1
      simp [valOf, Op.equalIn, run_underlying hu]
    case struct fs =>
      split at h
      · cases h
      · rename_i hst
        have hbt : b = true := by rw [← hagg]; rfl
        subst hbt
        have hfo : P.fieldsOf t = fs := by simp [Program.fieldsOf, hu]
        simp only [valOf, if_true]
        rw [run_equalIn_struct w (d + k) t _ _ (by rw [hfo]; exact hu) (by simpa using hst), hfo]
        exact run_eqFs (fun t l b n h1 h2 h3 h4 us vs r h5 => run_eqTy d t l b n h1 h2 h3 h4 k us vs r h5) fs.toList 0 l us vs r h (Nat.zero_le _) (Nat.zero_le _) (by simpa using hr)
    case array m e =>
      split at h
      · rename_i l1 b1 m1 h1 h2
        split at h
        · rename_i hc
          simp at h
          subst h
          have hbt : b = true := by rw [← hagg]; rfl
          subst hbt
          obtain ⟨_, inf2, _, hi2, _, hs2⟩ := tyI_some h2
          simp only [valOf, if_true]
          have hce : P.cellsOf e = m1 := by simp [Program.cellsOf, hi2, hs2]
          rw [run_equalIn_array w (d + k) _ _ hu hi2, hce, List.range_eq_range']
          exact run_eqItems' h2 hc.1 hc.2 (fun us vs r h5 => run_eqTy d e l1 b1 m1 h1 h2 hc.1 hc.2 k us vs r h5) m 0 us vs r (by omega) (by omega) (by simpa using hr)
        · cases h
      · cases h

theorem OpJ.eqAgg {x y : Operand} {t t' : TypeId} {op : BinOp} {d n : Nat} {l : List TypeDesc} {cs ds : List PV} {r : Bool} (ho : o.op = .binOp op t x y t') (hop : op = .eql ∨ op = .neq) (hx : ev T x = some (.p (.agg cs))) (hy : ev T y = some (.p (.agg ds))) (hd : d ≤ 10000) (he : eqTy P d t = some l) (ht : tyI P t = some (true, n)) (hn : n = l.length)
    (hg : P.eqGuardType P.depth t = false) (hq : peqs l cs ds = some r) : OpJ P N o T H (.p (.bool (if op = .eql then r else !r))) H :=
  OpJ.of_pure (by simp [ho]) fun w I ρ a hi hT => by
    obtain ⟨us, hu, h1⟩ := hT.ev hx
    obtain ⟨vs, hv, h2⟩ := hT.ev hy
    have h3 := peqs_rel hq h1 h2
    have h4 := run_eqTy (P := P) (w := w) d t l true n he ht hn (by simp) (10000 - d) us.toList vs.toList r h3
    rw [show d + (10000 - d) = 10000 by omega] at h4
    simp only [valOf, if_true, Array.toArray_toList] at h4
    have hgd := run_eqGuard_agg (P := P) w op t x y us vs hg
    rcases hop with rfl | rfl
    · refine ⟨.bool r, ?_, by simp [RelV, Rel]⟩
      simp [execOp, ho, hu, hv, hgd, run_eql_struct, h4]
    · refine ⟨.bool (!r), ?_, by simp [RelV, Rel]⟩
      simp [execOp, ho, hu, hv, hgd, run_neq_struct, h4]
end
end Go.AF
end
end
