/-
  Regions that draw their order: one pass in the order of the text serves every order, where the edges force what the operands need. No condition; generic over any program.
-/
import Derived.Test.YtmcejcidbekpkaaAf7
set_option linter.unusedVariables false
set_option linter.unusedSimpArgs false
set_option linter.unnecessarySimpa false
namespace Go.AF

/-- The slots that an operation looks at, with their values. -/
def restr (ops : Array Oper) (o : Oper) (T : Tm) : Tm := (o.looksAt ops).filterMap fun s => (lk T s).map (s, ·)

theorem lk_filterMap (T : Tm) : ∀ (l : List Nat) (s : Nat), lk (l.filterMap fun s => (lk T s).map (s, ·)) s = if s ∈ l then lk T s else none
  | [], s => by simp [lk]
  | x :: l, s => by
    have ih := lk_filterMap T l s
    by_cases hx : x = s
    · subst hx
      cases h : lk T x with
      | none =>
        simp only [List.filterMap_cons, h, Option.map_none, List.mem_cons, true_or, if_true]
        rw [ih]
        split
        · exact h
        · rfl
      | some v => simp [List.filterMap_cons, h, lk]
    · have hb : Nat.beq x s = false := by
        cases h0 : Nat.beq x s with
        | false => rfl
        | true => exact absurd (Nat.eq_of_beq_eq_true h0) hx
      have hm : (s ∈ x :: l) ↔ s ∈ l := by simp [Ne.symm hx]
      simp only [hm]
      cases h : lk T x with
      | none => simp only [List.filterMap_cons, h, Option.map_none]; exact ih
      | some v => simp only [List.filterMap_cons, h, Option.map_some, lk, hb, cond_false]; exact ih

/-- An operation that leaves the own blocks alone yields v, carried out or not. -/
def YJ (P : Program) (N : Nat) (ops : Array Oper) (o : Oper) (T : Tm) (H : List Blk) (v : V) : Prop :=
  (o.guard = none ∧ OpJ P N o (restr ops o T) H v H) ∨
  (∃ j want s c x v', o.guard = some (j, want) ∧ gslot ops j = some s ∧ dstOk N (some s) = true ∧ lk (restr ops o T) s = some x ∧ gcond want x = some c ∧ v = .opt c v' ∧ (c = true → ∃ T2, subG T2 (restr ops o T) ∧ OpJ P N o T2 H v' H))

def AQuiet (P : Program) (N : Nat) (ops : Array Oper) (H : List Blk) (K : Tm → Prop) : List Oper → Tm → Prop
  | [], T => K T
  | o :: rest, T => ∃ v, dstOk N o.dst = true ∧ YJ P N ops o T H v ∧ AQuiet P N ops H K rest (setT T o.dst v)

section
variable {P : Program} {R : Option Nat} {N κ : Nat} {Q : Post} {T : Tm} {H : List Blk} {o : Oper} {ops : Array Oper} {K : Tm → Prop} {rest : List Oper}
theorem AQuiet.nil (h : K T) : AQuiet P N ops H K [] T := h
theorem AQuiet.cons (d : Nat) {v : V} (hd : o.dst = some d) (hdN : dstOk N (some d) = true) (hg : o.guard = none) (hop : OpJ P N o (restr ops o T) H v H) (next : AQuiet P N ops H K rest ((d, v) :: T)) : AQuiet P N ops H K (o :: rest) T :=
  ⟨v, by rw [hd]; exact hdN, .inl ⟨hg, hop⟩, by rw [hd]; exact next⟩
theorem AQuiet.guard (d s : Nat) {j : Nat} {want c : Bool} {x v : V} (hd : o.dst = some d) (hdN : dstOk N (some d) = true) (hg : o.guard = some (j, want)) (hs : gslot ops j = some s) (hsN : dstOk N (some s) = true) (hb : lk (restr ops o T) s = some x) (hc : gcond want x = some c)
    (T2 : Tm) (h2 : c = true → subG T2 (restr ops o T)) (hop : c = true → OpJ P N o T2 H v H) (next : AQuiet P N ops H K rest ((d, .opt c v) :: T)) : AQuiet P N ops H K (o :: rest) T :=
  ⟨_, by rw [hd]; exact hdN, .inr ⟨j, want, s, c, x, v, hg, hs, hsN, hb, hc, rfl, fun h => ⟨T2, h2 h, hop h⟩⟩, by rw [hd]; exact next⟩

/-! ### The check -/
/-- The operations that must have come before, as the bits of a number, for each operation. -/
def ancE (t : List Nat) : List Edge → Nat
  | [] => 0
  | e :: es => bif Region.binds .any e then (1 <<< e.on) ||| t.getD e.on 0 ||| ancE t es else ancE t es
def ancAux : List Nat → List Oper → List Nat
  | t, [] => t
  | t, o :: l => ancAux (t ++ [ancE t o.after.toList]) l
/-- Edges lead back; no slot is written twice; what is looked at is settled; behind place m all is forced. -/
def drawOk (m : Nat) (l : List Oper) : Bool :=
  let t := ancAux [] l
  let ix := List.range l.length
  (ix.all fun i => (l.getD i default).after.toList.all fun e => !Region.binds .any e || decide (e.on < i)) &&
  (ix.all fun i => ix.all fun j => i == j || ((l.getD i default).dst.isNone || !((l.getD i default).dst == (l.getD j default).dst))) &&
  (ix.all fun i => ((l.getD i default).looksAt l.toArray).all fun s => ix.all fun j => i == j || !((l.getD j default).dst == some s) || (if j < i then (t.getD i 0).testBit j else (t.getD j 0).testBit i)) &&
  (ix.all fun i => decide (i < m) || (List.range i).all fun j => (t.getD i 0).testBit j)

theorem ancE_spec (t : List Nat) (x : Nat) : ∀ es : List Edge, (ancE t es).testBit x = true → ∃ e ∈ es, Region.binds .any e = true ∧ (x = e.on ∨ (t.getD e.on 0).testBit x = true)
  | [], h => by simp [ancE] at h
  | e :: es, h => by
    simp only [ancE] at h
    cases hb : Region.binds .any e with
    | true =>
      rw [hb] at h
      simp only [cond_true, Nat.testBit_or, Bool.or_eq_true] at h
      rcases h with (h | h) | h
      · refine ⟨e, by simp, hb, .inl ?_⟩
        rw [Nat.one_shiftLeft, Nat.testBit_two_pow] at h
        simpa [eq_comm] using h
      · exact ⟨e, by simp, hb, .inr h⟩
      · obtain ⟨e', h1, h2⟩ := ancE_spec t x es h
        exact ⟨e', by simp [h1], h2⟩
    | false =>
      rw [hb] at h
      obtain ⟨e', h1, h2⟩ := ancE_spec t x es h
      exact ⟨e', by simp [h1], h2⟩
theorem ancAux_spec (f : Nat → Bool) : ∀ (l pre : List Oper) (t : List Nat), t.length = pre.length →
    (∀ i o, (pre ++ l)[i]? = some o → f i = true → ∀ e ∈ o.after, Region.binds .any e = true → f e.on = true) →
    (∀ i x, i < t.length → (t.getD i 0).testBit x = true → f i = true → f x = true) → ∀ i x, ((ancAux t l).getD i 0).testBit x = true → f i = true → f x = true
  | [], pre, t, hl, hc, ht, i, x, hx, hi => by
    by_cases h : i < t.length
    · exact ht i x h hx hi
    · simp only [ancAux] at hx
      rw [List.getD_eq_getElem?_getD, List.getElem?_eq_none (by omega)] at hx
      simp at hx
  | o :: l, pre, t, hl, hc, ht, i, x, hx, hi => by
    refine ancAux_spec f l (pre ++ [o]) _ (by simp [hl]) (by simpa using hc) ?_ i x hx hi
    intro k y hk hy hfk
    by_cases h : k < t.length
    · rw [List.getD_eq_getElem?_getD, List.getElem?_append_left h, ← List.getD_eq_getElem?_getD] at hy
      exact ht k y h hy hfk
    · have hk' : k = t.length := by simp at hk; omega
      subst hk'
      rw [List.getD_eq_getElem?_getD, List.getElem?_append_right (Nat.le_refl _)] at hy
      simp only [Nat.sub_self, List.getElem?_cons_zero, Option.getD_some] at hy
      obtain ⟨e, he, hb, hy⟩ := ancE_spec t y _ hy
      have ho : (pre ++ o :: l)[t.length]? = some o := by rw [hl]; simp
      have hon := hc _ o ho hfk e (by simpa using he) hb
      rcases hy with rfl | hy
      · exact hon
      · by_cases h2 : e.on < t.length
        · exact ht e.on y h2 hy hon
        · rw [List.getD_eq_getElem?_getD, List.getElem?_eq_none (by omega)] at hy
          simp at hy

/-- What the slots hold once the operations of f have been carried out. -/
def tl (l : List Oper) (T : Tm) (vs : Nat → V) (f : Nat → Bool) (s : Nat) : Option V :=
  match (List.range l.length).find? fun j => f j && (l.getD j default).dst == some s with
  | some j => some (vs j)
  | none => lk T s

structure DrawOk (m : Nat) (l : List Oper) : Prop where
  back : ∀ (i : Nat) (o : Oper), l[i]? = some o → ∀ e ∈ o.after, Region.binds .any e = true → e.on < i
  uniq : ∀ (i j : Nat) (oi oj : Oper) (s : Nat), l[i]? = some oi → l[j]? = some oj → oi.dst = some s → oj.dst = some s → i = j
  look : ∀ (f : Nat → Bool), (∀ (i : Nat) (o : Oper), l[i]? = some o → f i = true → ∀ e ∈ o.after, Region.binds .any e = true → f e.on = true) → ∀ (i j : Nat) (oi oj : Oper) (s : Nat), l[i]? = some oi → l[j]? = some oj → s ∈ oi.looksAt l.toArray → oj.dst = some s → i ≠ j → (j < i → f i = true → f j = true) ∧ (i < j → f j = true → f i = true)
  tail : ∀ (f : Nat → Bool), (∀ (i : Nat) (o : Oper), l[i]? = some o → f i = true → ∀ e ∈ o.after, Region.binds .any e = true → f e.on = true) → ∀ i, m ≤ i → i < l.length → f i = true → ∀ j, j < i → f j = true

theorem getD_of {l : List Oper} {i : Nat} {o : Oper} (h : l[i]? = some o) : l.getD i default = o := by simp [List.getD_eq_getElem?_getD, h]
theorem lt_of_get {α : Type} {l : List α} {i : Nat} {o : α} (h : l[i]? = some o) : i < l.length := (List.getElem?_eq_some_iff.1 h).1

theorem DrawOk.of {m : Nat} {l : List Oper} (h : drawOk m l = true) : DrawOk m l := by
  simp only [drawOk, Bool.and_eq_true] at h
  obtain ⟨⟨⟨h1, h2⟩, h3⟩, h4⟩ := h
  have spec := fun (f : Nat → Bool) hc => ancAux_spec f l [] [] rfl (by simpa using hc) (fun i x h => by simp at h)
  refine ⟨fun i o ho e he hb => ?_, fun i j oi oj s hi hj hdi hdj => ?_, fun f hc i j oi oj s hi hj hs hd hne => ?_, fun f hc i hm hi hf j hj => ?_⟩
  · have := List.all_eq_true.1 (List.all_eq_true.1 h1 i (List.mem_range.2 (lt_of_get ho))) e (by rw [getD_of ho]; simpa using he)
    simpa [hb] using this
  · have := List.all_eq_true.1 (List.all_eq_true.1 h2 i (List.mem_range.2 (lt_of_get hi))) j (List.mem_range.2 (lt_of_get hj))
    rw [getD_of hi, getD_of hj, hdi, hdj] at this
    simpa using this
  · have := List.all_eq_true.1 (List.all_eq_true.1 (List.all_eq_true.1 h3 i (List.mem_range.2 (lt_of_get hi))) s (by rw [getD_of hi]; exact hs)) j (List.mem_range.2 (lt_of_get hj))
    rw [getD_of hj, hd] at this
    have hne' : (i == j) = false := by simpa using hne
    simp only [hne', Bool.false_or, BEq.rfl, Bool.not_true] at this
    constructor
    · intro hlt hfi
      rw [if_pos hlt] at this
      exact spec f hc i j (by simpa using this) hfi
    · intro hlt hfj
      rw [if_neg (by omega)] at this
      exact spec f hc j i (by simpa using this) hfj
  · have := List.all_eq_true.1 h4 i (List.mem_range.2 hi)
    have hn : decide (i < m) = false := by simpa using hm
    rw [hn, Bool.false_or] at this
    have := List.all_eq_true.1 this j (List.mem_range.2 hj)
    exact spec f hc i j (by simpa using this) hf

section
variable {m : Nat} {l : List Oper} {vs : Nat → V}
theorem tl_some (hk : DrawOk m l) {f : Nat → Bool} {j : Nat} {o : Oper} {s : Nat} (hj : l[j]? = some o) (hf : f j = true) (hd : o.dst = some s) : tl l T vs f s = some (vs j) := by
  unfold tl
  cases hfd : (List.range l.length).find? (fun j => f j && (l.getD j default).dst == some s) with
  | none =>
    have := List.find?_eq_none.1 hfd j (List.mem_range.2 (lt_of_get hj))
    rw [getD_of hj, hd, hf] at this
    simp at this
  | some k =>
    have h1 := List.find?_some hfd
    have h2 := List.mem_range.1 (List.mem_of_find?_eq_some hfd)
    simp only [Bool.and_eq_true, beq_iff_eq] at h1
    have hk2 : l[k]? = some l[k] := List.getElem?_eq_getElem h2
    rw [getD_of hk2] at h1
    have := hk.uniq j k o l[k] s hj hk2 hd h1.2
    rw [this]
theorem tl_none {f : Nat → Bool} {s : Nat} (h : ∀ j o, l[j]? = some o → f j = true → o.dst ≠ some s) : tl l T vs f s = lk T s := by
  unfold tl
  cases hfd : (List.range l.length).find? (fun j => f j && (l.getD j default).dst == some s) with
  | none => rfl
  | some k =>
    have h1 := List.find?_some hfd
    have h2 := List.mem_range.1 (List.mem_of_find?_eq_some hfd)
    simp only [Bool.and_eq_true, beq_iff_eq] at h1
    have hk2 : l[k]? = some l[k] := List.getElem?_eq_getElem h2
    rw [getD_of hk2] at h1
    exact absurd h1.2 (h k l[k] hk2 h1.1)
theorem tl_congr (hk : DrawOk m l) {f g : Nat → Bool} {s : Nat} (h : ∀ j o, l[j]? = some o → o.dst = some s → f j = g j) : tl l T vs f s = tl l T vs g s := by
  by_cases hex : ∃ j o, l[j]? = some o ∧ f j = true ∧ o.dst = some s
  · obtain ⟨j, o, h1, h2, h3⟩ := hex
    rw [tl_some hk h1 h2 h3, tl_some hk h1 ((h j o h1 h3) ▸ h2) h3]
  · rw [tl_none (fun j o h1 h2 h3 => hex ⟨j, o, h1, h2, h3⟩), tl_none (fun j o h1 h2 h3 => hex ⟨j, o, h1, (h j o h1 h3).trans h2, h3⟩)]

theorem AQuiet.vals {ops : Array Oper} : ∀ {l' : List Oper} {T : Tm}, AQuiet P N ops H K l' T → ∃ (vs : Nat → V) (Tx : Nat → Tm), Tx 0 = T ∧ (∀ i o, l'[i]? = some o → dstOk N o.dst = true ∧ YJ P N ops o (Tx i) H (vs i) ∧ Tx (i + 1) = setT (Tx i) o.dst (vs i)) ∧ K (Tx l'.length)
  | [], T, h => ⟨fun _ => .top, fun _ => T, rfl, fun i o ho => by simp at ho, h⟩
  | o :: l', T, h => by
    obtain ⟨v, hd, hy, hn⟩ := h
    obtain ⟨vs, Tx, h0, h1, h2⟩ := AQuiet.vals hn
    refine ⟨fun i => match i with | 0 => v | i + 1 => vs i, fun i => match i with | 0 => T | i + 1 => Tx i, rfl, fun i x hx => ?_, h2⟩
    cases i with
    | zero => simp at hx; subst hx; exact ⟨hd, hy, h0⟩
    | succ i => simp at hx; exact h1 i x hx

theorem lk_Tx (hk : DrawOk m l) {Tx : Nat → Tm} {M : Nat} (hM : M ≤ l.length) (h0 : Tx 0 = T) (h1 : ∀ i o, i < M → l[i]? = some o → Tx (i + 1) = setT (Tx i) o.dst (vs i)) : ∀ i, i ≤ M → ∀ s, lk (Tx i) s = tl l T vs (fun j => decide (j < i)) s
  | 0, _, s => by rw [h0, tl_none (fun j o _ h => by simp at h)]
  | i + 1, hi, s => by
    have ho : l[i]? = some (l[i]'(by omega)) := List.getElem?_eq_getElem _
    rw [h1 i _ (by omega) ho]
    have ih := lk_Tx hk hM h0 h1 i (by omega) s
    by_cases hs : (l[i]'(by omega)).dst = some s
    · rw [hs, tl_some hk ho (by simp) hs]
      simp [setT, lk]
    · have e : lk (setT (Tx i) (l[i]'(by omega)).dst (vs i)) s = lk (Tx i) s := by
        cases hd : (l[i]'(by omega)).dst with
        | none => rfl
        | some d =>
          have hne : d ≠ s := fun e => hs (by rw [hd, e])
          have hb : Nat.beq d s = false := by
            cases h0 : Nat.beq d s with
            | false => rfl
            | true => exact absurd (Nat.eq_of_beq_eq_true h0) hne
          simp [setT, lk, hb]
      rw [e, ih]
      refine tl_congr hk fun j o hj hd => ?_
      have hne : j ≠ i := fun e => by
        subst e
        rw [ho] at hj
        cases hj
        exact hs hd
      simp; omega

theorem count_set : ∀ (l : List Bool) (i : Nat), l[i]? = some false → (l.set i true).count false + 1 = l.count false
  | [], i, h => by simp at h
  | b :: l, 0, h => by simp at h; subst h; simp
  | b :: l, i + 1, h => by
    simp at h
    have := count_set l i h
    cases b <;> simp <;> omega

/-- The state between two operations of a region that draws. -/
def SI (κ : Nat) (P : Program) (N : Nat) (H : List Blk) (l : List Oper) (T : Tm) (vs : Nat → V) (B : Base) (w0 : World) (I0 : Nat → Prop) (ρ0 : List Nat) (f : Nat → Bool) (a : Act) (w : World) : Prop :=
  ∃ I ρ, ExtW w0 I0 ρ0 w I ρ ∧ Inv P w I ρ H ∧ a.tmps.size = N ∧ (∀ s v, tl l T vs f s = some v → RelV P w I ρ v (a.tmps.getD s undef)) ∧ Marks κ B w I ρ a.defers

def fl (listed : Array Bool) (i : Nat) : Bool := listed.getD i false

theorem fl_set {listed : Array Bool} {i : Nat} (hi : i < listed.size) (j : Nat) : fl (listed.setIfInBounds i true) j = (decide (j = i) || fl listed j) := by
  unfold fl
  by_cases h : j = i
  · subst h; simp [hi]
  · simp [h, Ne.symm h]

theorem draw_tail (hk : DrawOk m l) {QX : Exit → Act → World → Prop} : ∀ (fuel k : Nat) (listed : Array Bool) (a : Act) (w : World), fuel + k = l.length → m ≤ k → listed.size = l.length → (∀ i, i < l.length → fl listed i = decide (i < k)) →
    wpListIn (Fr R) 0 P l.toArray QX (l.drop k) a w → wpAnyIn (Fr R) 0 P .any l.toArray QX fuel listed a w
  | 0, k, listed, a, w, hf, hm, hsz, hl, h => by
    have hk' : k = l.length := by omega
    subst hk'
    refine ⟨?_, by simpa [wpListIn] using h⟩
    refine List.eq_nil_iff_forall_not_mem.2 fun i hi => ?_
    obtain ⟨h1, o, ho, _⟩ := mem_ready.1 hi
    have hlt : i < l.length := lt_of_get (by simpa using ho)
    have h2 := hl i hlt
    unfold fl at h2
    simp [hsz, hlt] at h1 h2
    rw [h1] at h2; cases h2
  | fuel + 1, k, listed, a, w, hf, hm, hsz, hl, h => by
    have hlt : k < l.length := by omega
    have ho : l[k]? = some l[k] := List.getElem?_eq_getElem hlt
    have hr : k ∈ Region.ready .any l.toArray listed := by
      refine mem_ready.2 ⟨?_, l[k], by simpa using ho, fun e he hb => ?_⟩
      · have := hl k hlt
        unfold fl at this
        simp [hsz, hlt] at this ⊢
        exact this
      · have hlt2 := hk.back k _ ho e he hb
        have := hl e.on (by omega)
        unfold fl at this
        simpa [hlt2] using this
    refine ⟨(fun h0 => by rw [h0] at hr; cases hr), fun i hi => ?_⟩
    have hik : i = k := by
      obtain ⟨h1, o, ho', hall⟩ := mem_ready.1 hi
      have ho2 : l[i]? = some o := by simpa using ho'
      have hilt := lt_of_get ho2
      have h2 := hl i hilt
      unfold fl at h2
      simp [hsz, hilt] at h1 h2
      rw [h1] at h2
      have hki : k ≤ i := by simpa using h2.symm
      by_cases he : i = k
      · exact he
      · exfalso
        have hf := hk.tail (fun j => decide (j = i) || fl listed j) (fun j oj hj hfj e he hb => by
          simp only [Bool.or_eq_true, decide_eq_true_eq] at hfj ⊢
          rcases hfj with rfl | hfj
          · rw [ho2] at hj; cases hj
            exact .inr (hall e he hb)
          · have h3 := hl j (lt_of_get hj)
            rw [hfj] at h3
            have hjk : j < k := by simpa using h3.symm
            have := hk.back j _ hj e he hb
            exact .inr (by rw [hl e.on (by omega)]; simp; omega)) i (by omega) hilt (by simp) k (by omega)
        have h4 := hl k hlt
        simp [Ne.symm he, h4] at hf
    subst hik
    have hdrop : l.drop i = l[i] :: l.drop (i + 1) := List.drop_eq_getElem_cons hlt
    rw [hdrop] at h
    unfold wpOpIn
    have hoo : l.toArray[i]? = some l[i] := by simpa using ho
    simp only [hoo]
    have next : ∀ a w, wpListIn (Fr R) 0 P l.toArray QX (l.drop (i + 1)) a w → wpAnyIn (Fr R) 0 P .any l.toArray QX fuel (listed.setIfInBounds i true) a w := fun a w h => by
      refine draw_tail hk fuel (i + 1) _ a w (by omega) (by omega) (by simp [hsz]) (fun j hj => ?_) h
      rw [fl_set (by omega), hl j hj]
      by_cases e : j = i
      · subst e; simp
      · simp [e]; omega
    simp only [wpListIn] at h
    split
    · rename_i hw; rw [if_pos hw] at h; exact Oper.wpIn_mono next h
    · rename_i hw; rw [if_neg hw] at h; exact ⟨h.1, next _ _ h.2⟩

theorem draw_main (hk : DrawOk m l) (hm : m ≤ l.length) {B : Base} {w0 : World} {I0 : Nat → Prop} {ρ0 : List Nat} {QX : Exit → Act → World → Prop} {Tx : Nat → Tm} (h0 : Tx 0 = T)
    (h1 : ∀ i o, i < m → l[i]? = some o → dstOk N o.dst = true ∧ YJ P N l.toArray o (Tx i) H (vs i) ∧ Tx (i + 1) = setT (Tx i) o.dst (vs i))
    (hK : ∀ a w I ρ, ExtW w0 I0 ρ0 w I ρ → Inv P w I ρ H → TRel P w I ρ N (Tx m) a.tmps → Marks κ B w I ρ a.defers → wpListIn (Fr R) 0 P l.toArray QX (l.drop m) a w) :
    ∀ (fuel : Nat) (listed : Array Bool) (a : Act) (w : World), listed.toList.count false = fuel → listed.size = l.length → (∀ i o, l[i]? = some o → fl listed i = true → ∀ e ∈ o.after, Region.binds .any e = true → fl listed e.on = true) → (∀ i, m ≤ i → fl listed i = false) →
    SI κ P N H l T vs B w0 I0 ρ0 (fl listed) a w → wpAnyIn (Fr R) 0 P .any l.toArray QX fuel listed a w := by
  intro fuel
  have hlk := lk_Tx (vs := vs) hk hm h0 (fun i o hi ho => (h1 i o hi ho).2.2)
  have done : ∀ (fuel : Nat) (listed : Array Bool) (a : Act) (w : World), listed.toList.count false = fuel → listed.size = l.length → (∀ i, m ≤ i → fl listed i = false) → (∀ i, i < m → fl listed i = true) → SI κ P N H l T vs B w0 I0 ρ0 (fl listed) a w → wpAnyIn (Fr R) 0 P .any l.toArray QX fuel listed a w := by
    intro fuel listed a w hcnt hsz htl hall hsi
    obtain ⟨I, ρ, he, hi, hs, hrel, hmk⟩ := hsi
    have hfl : ∀ i, fl listed i = decide (i < m) := fun i => by
      by_cases h : i < m
      · rw [hall i h]; simp [h]
      · rw [htl i (by omega)]; simp [h]
    have hcount : fuel + m = l.length := by
      have gen : ∀ (bs : List Bool) (k : Nat), k ≤ bs.length → (∀ i b, bs[i]? = some b → b = decide (i < k)) → bs.count false + k = bs.length := by
        intro bs
        induction bs with
        | nil => intro k hk _; simp at hk; simp [hk]
        | cons b bs ih =>
          intro k hk hb
          have hb0 := hb 0 b rfl
          cases k with
          | zero =>
            have := ih 0 (by omega) (fun i c hc => by have := hb (i + 1) c (by simpa using hc); simpa using this)
            simp at hb0
            subst hb0
            simp at this ⊢
            omega
          | succ k =>
            have := ih k (by simpa using hk) (fun i c hc => by have := hb (i + 1) c (by simpa using hc); simpa using this)
            simp at hb0
            subst hb0
            simp at this ⊢
            omega
      have := gen listed.toList m (by simpa [hsz] using hm) (fun i b hb => by
        have := hfl i
        unfold fl at this
        simp at hb
        rw [← this]
        simp [hb])
      rw [hcnt] at this
      simpa [hsz] using this
    refine draw_tail hk fuel m listed a w hcount (Nat.le_refl _) hsz (fun i _ => hfl i) (hK a w I ρ he hi ⟨hs, fun s v hv => hrel s v ?_⟩ hmk)
    rw [← hv, hlk m (Nat.le_refl _)]
    exact tl_congr hk fun j o hj hd => hfl j
  induction fuel with
  | zero =>
    intro listed a w hcnt hsz hcl htl hsi
    refine done 0 listed a w hcnt hsz htl (fun i hi => ?_) hsi
    have hlt : i < listed.size := by omega
    have h2 := List.count_eq_zero.1 hcnt
    unfold fl
    cases h3 : listed[i] with
    | true => simp [hlt, h3]
    | false => exact absurd (by rw [← h3]; exact Array.mem_toList_iff.2 (Array.getElem_mem hlt)) h2
  | succ fuel ih =>
    intro listed a w hcnt hsz hcl htl hsi
    by_cases hall : ∀ i, i < m → fl listed i = true
    · exact done (fuel + 1) listed a w hcnt hsz htl hall hsi
    · obtain ⟨i0, hi0, hmin⟩ : ∃ i0, (i0 < m ∧ fl listed i0 = false) ∧ ∀ j, j < i0 → fl listed j = true := by
        have hex : ∃ i, i < m ∧ fl listed i = false := by
          refine Classical.byContradiction fun hno => hall fun i hi => ?_
          cases h : fl listed i with
          | true => rfl
          | false => exact absurd ⟨i, hi, h⟩ hno
        obtain ⟨k, ⟨h3, h4⟩, h5⟩ := exists_least _ hex
        refine ⟨k, ⟨h3, h4⟩, fun j hj => ?_⟩
        cases h : fl listed j with
        | true => rfl
        | false => have := h5 j ⟨by omega, h⟩; omega
      have ho0 : l[i0]? = some (l[i0]'(by omega)) := List.getElem?_eq_getElem _
      have hr0 : i0 ∈ Region.ready .any l.toArray listed := by
        refine mem_ready.2 ⟨?_, (l[i0]'(by omega)), by rw [List.getElem?_toArray]; exact ho0, fun e he hb => hmin e.on (hk.back i0 _ ho0 e he hb)⟩
        have := hi0.2
        unfold fl at this
        have hlt : i0 < listed.size := by omega
        simp [hlt] at this ⊢
        exact this
      refine ⟨(fun h => by rw [h] at hr0; cases hr0), fun i hi => ?_⟩
      obtain ⟨h3, o, ho', hev⟩ := mem_ready.1 hi
      have ho : l[i]? = some o := by simpa using ho'
      have hilt := lt_of_get ho
      have hcl' : ∀ j oj, l[j]? = some oj → (decide (j = i) || fl listed j) = true → ∀ e ∈ oj.after, Region.binds .any e = true → (decide (e.on = i) || fl listed e.on) = true := fun j oj hj hfj e he hb => by
        simp only [Bool.or_eq_true, decide_eq_true_eq] at hfj ⊢
        rcases hfj with rfl | hfj
        · rw [ho] at hj; cases hj
          exact .inr (hev e he hb)
        · exact .inr (hcl j oj hj hfj e he hb)
      have him : i < m := by
        rcases Nat.lt_or_ge i m with h | h
        · exact h
        · have := hk.tail (fun j => decide (j = i) || fl listed j) hcl' i h hilt (by simp) i0 (by omega)
          have hne : ¬ i0 = i := by omega
          simp [hne, hi0.2] at this
      have hnl : fl listed i = false := by
        have hlt : i < listed.size := by omega
        unfold fl
        simp [hlt] at h3 ⊢
        exact h3
      obtain ⟨hdst, hy, _⟩ := h1 i o him ho
      obtain ⟨I, ρ, he, hinv, hs, hrel, hmk⟩ := hsi
      have hlook : ∀ s v, lk (restr l.toArray o (Tx i)) s = some v → RelV P w I ρ v (a.tmps.getD s undef) := by
        intro s v hv
        unfold restr at hv
        rw [lk_filterMap] at hv
        split at hv
        · rename_i hs'
          rw [hlk i (by omega)] at hv
          refine hrel s v ?_
          rw [← hv]
          refine tl_congr hk fun j oj hj hd => ?_
          by_cases hji : j = i
          · subst hji; rw [hnl]; simp
          · obtain ⟨k1, k2⟩ := hk.look (fun j => decide (j = i) || fl listed j) hcl' i j o oj s ho hj hs' hd (Ne.symm hji)
            rcases Nat.lt_trichotomy j i with h | h | h
            · have := k1 h (by simp)
              simp [hji] at this
              simp [this, h]
            · exact absurd h hji
            · have hkf := hk.look (fl listed) hcl i j o oj s ho hj hs' hd (Ne.symm hji)
              cases hfj : fl listed j with
              | false => simp; omega
              | true => have := hkf.2 h hfj; rw [hnl] at this; cases this
        · cases hv
      have htr : TRel P w I ρ N (restr l.toArray o (Tx i)) a.tmps := ⟨hs, hlook⟩
      have next : ∀ u w' I' ρ', Ext w I ρ w' I' ρ' → Inv P w' I' ρ' H → RelV P w' I' ρ' (vs i) u → wpAnyIn (Fr R) 0 P .any l.toArray QX fuel (listed.setIfInBounds i true) (a.put o.dst u) w' := by
        intro u w' I' ρ' he' hinv' hu
        refine ih (listed.setIfInBounds i true) (a.put o.dst u) w' ?_ (by simp [hsz]) ?_ ?_ ?_
        · have hlt : i < listed.size := by omega
          have h5 : listed.toList[i]? = some false := by
            unfold fl at hnl
            simp [hlt] at hnl ⊢
            exact hnl
          have := count_set listed.toList i h5
          rw [Array.toList_setIfInBounds]
          omega
        · intro j oj hj hfj e hee hb
          rw [fl_set (by omega)] at hfj ⊢
          exact hcl' j oj hj hfj e hee hb
        · intro j hj
          rw [fl_set (by omega), htl j hj]
          have : ¬ j = i := by omega
          simp [this]
        · refine ⟨I', ρ', he.trans he'.w, hinv', by cases o.dst <;> simp [Act.put, hs], fun s v hv => ?_, (hmk.ext he').put⟩
          cases hd : o.dst with
          | none =>
            have e1 : tl l T vs (fl (listed.setIfInBounds i true)) s = tl l T vs (fl listed) s := tl_congr hk fun j oj hj hdj => by
              rw [fl_set (by omega)]
              have : j ≠ i := fun e => by
                subst e
                rw [ho] at hj; cases hj
                rw [hd] at hdj; cases hdj
              simp [this]
            rw [e1] at hv
            exact (hrel s v hv).ext he'
          | some d =>
            have hlt : d < N := by
              rw [hd] at hdst
              simpa [dstOk, Nat.blt, Nat.lt_iff_add_one_le] using hdst
            by_cases hsd : d = s
            · subst hsd
              have e1 : tl l T vs (fl (listed.setIfInBounds i true)) d = some (vs i) := tl_some hk ho (by rw [fl_set (by omega)]; simp) hd
              rw [e1] at hv
              cases hv
              have h6 : d < a.tmps.size := by rw [hs]; exact hlt
              simpa [Act.put, h6] using hu
            · have e1 : tl l T vs (fl (listed.setIfInBounds i true)) s = tl l T vs (fl listed) s := tl_congr hk fun j oj hj hdj => by
                rw [fl_set (by omega)]
                have : j ≠ i := fun e => by
                  subst e
                  rw [ho] at hj; cases hj
                  rw [hd] at hdj; cases hdj
                  exact hsd rfl
                simp [this]
              rw [e1] at hv
              have := (hrel s v hv).ext he'
              simpa [Act.put, hsd] using this
      unfold wpOpIn
      simp only [ho']
      rcases hy with ⟨hg, hop⟩ | ⟨j, want, s, c, x, v', hg, hsl, hsN, hb, hc, hv, hop⟩
      · simp only [Region.wanted, hg, if_true]
        exact hop R w I ρ a hinv htr _ _ next
      · have hyl := yielded_of hsl htr hsN hb hc
        simp only [Region.wanted, hg, hyl]
        cases c with
        | true =>
          simp only [if_true]
          obtain ⟨T2, hsub, hop⟩ := hop rfl
          exact hop R w I ρ a hinv (htr.subG hsub) _ _ fun u w' I' ρ' he' hi' hu => next u w' I' ρ' he' hi' (by rw [hv]; exact ⟨fun _ => hu, (fun h => by cases h)⟩)
        | false =>
          simp only [Bool.false_eq_true, if_false]
          exact ⟨about_wide, next undef w I ρ (Ext.refl _ _ _) hinv (by rw [hv]; exact ⟨(fun h => by cases h), fun _ => rfl⟩)⟩

/-- **A region that draws its order**, by one pass in the order of the text: the first m operations leave the own blocks alone; the others are forced to come behind them, in their order. -/
theorem AWp.regionDraw {id : Nat} (m : Nat) (hmx : P.follows .mixedOrders = true) (hk : drawOk m l = true) (hm : m ≤ l.length) (h : AQuiet P N l.toArray H (fun T' => AList P R N κ l.toArray (l.drop m) Q T' H) (l.take m) T) : AWp P R N κ (.region id l.toArray true) Q T H := by
  intro B w I ρ a hi ht hmk
  obtain ⟨vs, Tx, h0, h1, h2⟩ := AQuiet.vals h
  have hlen : (l.take m).length = m := by simp; omega
  rw [hlen] at h2
  refine wpIn_region_any hmx ?_
  have hi' : Inv P w.drew I ρ H := hi.drew
  refine draw_main (κ := κ) (DrawOk.of hk) hm (B := B) (w0 := w) (I0 := I) (ρ0 := ρ) h0 (fun i o him ho => h1 i o (by rw [List.getElem?_take, if_pos him]; exact ho)) ?_ _ _ a w.drew (by simp) (by simp) ?_ ?_ ?_
  · intro a' w' I' ρ' he hi2 ht2 hm2
    exact h2 _ B w' I' ρ' a' hi2 ht2 hm2 fun e a2 w2 q => QC.ext he q
  · intro i o ho hf
    have hlt := lt_of_get ho
    simp [fl, hlt] at hf
  · intro i _
    unfold fl
    by_cases hlt : i < l.length <;> simp [hlt]
  · refine ⟨I, ρ, Ext.drew.w, hi', ht.size, fun s v hv => ?_, hmk.ext Ext.drew⟩
    rw [tl_none (fun j o hj hf => by
      unfold fl at hf
      by_cases hlt : j < l.length <;> simp [hlt] at hf)] at hv
    exact (ht.at_ s v hv).ext (Ext.drew (w := w) (I := I) (ρ := ρ))
end
end
end Go.AF
