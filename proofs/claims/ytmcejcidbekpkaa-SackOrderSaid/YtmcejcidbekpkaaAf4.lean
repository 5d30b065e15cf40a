/-
  The operations on plain values and on memory, each as one judgement over abstract states. No condition; generic over any program.
-/
import Derived.Test.YtmcejcidbekpkaaAf3
import Derived.Laws.Cells
import Derived.Laws.BitsLemmas
import Derived.ChangeKeysEq
set_option linter.unusedVariables false
set_option linter.unusedSimpArgs false
namespace Go.AF
section
variable {P : Program} {R : Option Nat} {N κ : Nat} {Q Q' : Post} {T T' : Tm} {H : List Blk} {o : Oper}

/-! ### Plain operations -/
theorem OpJ.move {x : Operand} {v : V} (ho : o.op = .move x) (hx : ev T x = some v) : OpJ P N o T H v H :=
  OpJ.of_pure (by simp [ho]) fun w I ρ a hi ht => ⟨a.eval x, by simp [execOp, ho], ht.ev hx⟩
theorem OpJ.assign {x : Operand} {v : V} (ho : o.op = .assign x) (hx : ev T x = some v) : OpJ P N o T H v H :=
  OpJ.of_pure (by simp [ho]) fun w I ρ a hi ht => ⟨a.eval x, by simp [execOp, ho], ht.ev hx⟩

theorem ev_bool {w : World} {I : Nat → Prop} {ρ : List Nat} {a : Act} (ht : TRel P w I ρ N T a.tmps) {x : Operand} {b : Bool} (h : ev T x = some (.p (.bool b))) : a.eval x = .bool b := by
  have := ht.ev h; simpa [RelV, Rel] using this
theorem ev_int {w : World} {I : Nat → Prop} {ρ : List Nat} {a : Act} (ht : TRel P w I ρ N T a.tmps) {x : Operand} {k : IntKind} {n : Int} (h : ev T x = some (.p (.int k n))) : a.eval x = .int k n := by
  have := ht.ev h; simpa [RelV, Rel] using this
theorem ev_str {w : World} {I : Nat → Prop} {ρ : List Nat} {a : Act} (ht : TRel P w I ρ N T a.tmps) {x : Operand} {s : ByteArray} (h : ev T x = some (.p (.str s))) : a.eval x = .string s := by
  have := ht.ev h; simpa [RelV, Rel] using this

/-- 'a && b', where b was reckoned only if a holds. -/
theorem OpJ.and_ {c x : Operand} {b g d : Bool} (ho : o.op = .pick c x (.const (.bool false))) (hc : ev T c = some (.p (.bool b))) (hx : ev T x = some (.opt g (.p (.bool d)))) (hg : b = true → g = true) : OpJ P N o T H (.p (.bool (b && d))) H :=
  OpJ.of_pure (by simp [ho]) fun w I ρ a hi ht => by
    have h1 := ev_bool ht hc
    have h2 := ht.ev hx
    refine ⟨.bool (b && d), ?_, by simp [RelV, Rel]⟩
    cases b with
    | false =>
      have hk : a.eval (.const (.bool false)) = .bool false := rfl
      simp [execOp, ho, h1, asBool, hk]
    | true =>
      have h3 := h2.1 (hg rfl)
      simp only [RelV, Rel] at h3
      simp [execOp, ho, h1, asBool, h3]
/-- 'a || b', where b was reckoned only if a does not hold. -/
theorem OpJ.or_ {c y : Operand} {b g d : Bool} (ho : o.op = .pick c (.const (.bool true)) y) (hc : ev T c = some (.p (.bool b))) (hy : ev T y = some (.opt g (.p (.bool d)))) (hg : b = false → g = true) : OpJ P N o T H (.p (.bool (b || d))) H :=
  OpJ.of_pure (by simp [ho]) fun w I ρ a hi ht => by
    have h1 := ev_bool ht hc
    have h2 := ht.ev hy
    refine ⟨.bool (b || d), ?_, by simp [RelV, Rel]⟩
    cases b with
    | true =>
      have hk : a.eval (.const (.bool true)) = .bool true := rfl
      simp [execOp, ho, h1, asBool, hk]
    | false =>
      have h3 := h2.1 (hg rfl)
      simp only [RelV, Rel] at h3
      simp [execOp, ho, h1, asBool, h3]
/-- A pick whose condition is known. -/
theorem OpJ.pickYes {c x y : Operand} {b : Bool} {v : V} (ho : o.op = .pick c x y) (hc : ev T c = some (.p (.bool b))) (hb : b = true) (hx : ev T x = some v) : OpJ P N o T H v H :=
  OpJ.of_pure (by simp [ho]) fun w I ρ a hi ht => by
    have h1 := ev_bool ht hc
    subst hb
    exact ⟨a.eval x, by simp [execOp, ho, h1, asBool], ht.ev hx⟩
theorem OpJ.pickNo {c x y : Operand} {b : Bool} {v : V} (ho : o.op = .pick c x y) (hc : ev T c = some (.p (.bool b))) (hb : b = false) (hy : ev T y = some v) : OpJ P N o T H v H :=
  OpJ.of_pure (by simp [ho]) fun w I ρ a hi ht => by
    have h1 := ev_bool ht hc
    subst hb
    exact ⟨a.eval y, by simp [execOp, ho, h1, asBool], ht.ev hy⟩

theorem OpJ.not_ {x : Operand} {t : TypeId} {b : Bool} (ho : o.op = .unOp .not t x) (hx : ev T x = some (.p (.bool b))) : OpJ P N o T H (.p (.bool (!b))) H :=
  OpJ.of_pure (by simp [ho]) fun w I ρ a hi ht => ⟨.bool (!b), by simp [execOp, ho, ev_bool ht hx, Op.unary], by simp [RelV, Rel]⟩
theorem OpJ.neg {x : Operand} {t : TypeId} {k : IntKind} {n m : Int} (ho : o.op = .unOp .neg t x) (hx : ev T x = some (.p (.int k n))) (hw : k.wrap (0 - n) = m) : OpJ P N o T H (.p (.int k m)) H :=
  OpJ.of_pure (by simp [ho]) fun w I ρ a hi ht => ⟨.int k m, by simp [execOp, ho, ev_int ht hx, Op.unary, Op.intArith, ← hw], by simp [RelV, Rel]⟩

theorem eqGuard_int (op : BinOp) (t : TypeId) (x y : Operand) (k k' : IntKind) (a b : Int) (w : World) : (eqGuard op t x y (.int k a) (.int k' b)).run P w = .ok () w := by
  cases op <;> simp [eqGuard]
theorem eqGuard_bool (op : BinOp) (t : TypeId) (x y : Operand) (a b : Bool) (w : World) : (eqGuard op t x y (.bool a) (.bool b)).run P w = .ok () w := by
  cases op <;> simp [eqGuard]
theorem eqGuard_str (op : BinOp) (t : TypeId) (x y : Operand) (a b : ByteArray) (w : World) : (eqGuard op t x y (.string a) (.string b)).run P w = .ok () w := by
  cases op <;> simp [eqGuard]

theorem OpJ.int2 {op : BinOp} {x y : Operand} {t t' : TypeId} {k : IntKind} {a b : Int} {r : PV} (ho : o.op = .binOp op t x y t') (hx : ev T x = some (.p (.int k a))) (hy : ev T y = some (.p (.int k b)))
    (hr : ∀ w I, ∃ u, (Go.binOp op t (.int k a) (.int k b)).run P w = .ok u w ∧ Rel w I r u) : OpJ P N o T H (.p r) H :=
  OpJ.of_pure (by simp [ho]) fun w I ρ ac hi ht => by
    obtain ⟨u, h1, h2⟩ := hr w I
    exact ⟨u, by simp [execOp, ho, ev_int ht hx, ev_int ht hy, eqGuard_int, h1], h2⟩
theorem OpJ.add {x y : Operand} {t t' : TypeId} {k : IntKind} {a b m : Int} (ho : o.op = .binOp .add t x y t') (hx : ev T x = some (.p (.int k a))) (hy : ev T y = some (.p (.int k b))) (hw : k.wrap (a + b) = m) : OpJ P N o T H (.p (.int k m)) H :=
  OpJ.int2 ho hx hy fun w I => ⟨.int k m, by simp [Go.binOp, Op.intArith, hw], by simp [Rel]⟩
theorem OpJ.sub_ {x y : Operand} {t t' : TypeId} {k : IntKind} {a b m : Int} (ho : o.op = .binOp .sub t x y t') (hx : ev T x = some (.p (.int k a))) (hy : ev T y = some (.p (.int k b))) (hw : k.wrap (a - b) = m) : OpJ P N o T H (.p (.int k m)) H :=
  OpJ.int2 ho hx hy fun w I => ⟨.int k m, by simp [Go.binOp, Op.intArith, hw], by simp [Rel]⟩
theorem OpJ.mul {x y : Operand} {t t' : TypeId} {k : IntKind} {a b m : Int} (ho : o.op = .binOp .mul t x y t') (hx : ev T x = some (.p (.int k a))) (hy : ev T y = some (.p (.int k b))) (hw : k.wrap (a * b) = m) : OpJ P N o T H (.p (.int k m)) H :=
  OpJ.int2 ho hx hy fun w I => ⟨.int k m, by simp [Go.binOp, Op.intArith, hw], by simp [Rel]⟩
theorem OpJ.quo {x y : Operand} {t t' : TypeId} {k : IntKind} {a b m : Int} (ho : o.op = .binOp .quo t x y t') (hx : ev T x = some (.p (.int k a))) (hy : ev T y = some (.p (.int k b))) (hb : b ≠ 0) (hw : k.wrap (a.tdiv b) = m) : OpJ P N o T H (.p (.int k m)) H :=
  OpJ.int2 ho hx hy fun w I => ⟨.int k m, by simp [Go.binOp, Op.intDiv, hb, hw], by simp [Rel]⟩
theorem OpJ.rem {x y : Operand} {t t' : TypeId} {k : IntKind} {a b m : Int} (ho : o.op = .binOp .rem t x y t') (hx : ev T x = some (.p (.int k a))) (hy : ev T y = some (.p (.int k b))) (hb : b ≠ 0) (hw : a.tmod b = m) : OpJ P N o T H (.p (.int k m)) H :=
  OpJ.int2 ho hx hy fun w I => ⟨.int k m, by simp [Go.binOp, Op.intDiv, hb, hw], by simp [Rel]⟩
theorem OpJ.lss {x y : Operand} {t t' : TypeId} {k : IntKind} {a b : Int} (ho : o.op = .binOp .lss t x y t') (hx : ev T x = some (.p (.int k a))) (hy : ev T y = some (.p (.int k b))) : OpJ P N o T H (.p (.bool (decide (a < b)))) H :=
  OpJ.int2 ho hx hy fun w I => ⟨.bool (decide (a < b)), by simp [Go.binOp, Op.intCmp], by simp [Rel]⟩
theorem OpJ.leq {x y : Operand} {t t' : TypeId} {k : IntKind} {a b : Int} (ho : o.op = .binOp .leq t x y t') (hx : ev T x = some (.p (.int k a))) (hy : ev T y = some (.p (.int k b))) : OpJ P N o T H (.p (.bool (decide (a ≤ b)))) H :=
  OpJ.int2 ho hx hy fun w I => ⟨.bool (decide (a ≤ b)), by simp [Go.binOp, Op.intCmp], by simp [Rel]⟩
theorem OpJ.gtr {x y : Operand} {t t' : TypeId} {k : IntKind} {a b : Int} (ho : o.op = .binOp .gtr t x y t') (hx : ev T x = some (.p (.int k a))) (hy : ev T y = some (.p (.int k b))) : OpJ P N o T H (.p (.bool (decide (b < a)))) H :=
  OpJ.int2 ho hx hy fun w I => ⟨.bool (decide (b < a)), by simp [Go.binOp, Op.intCmp], by simp [Rel]⟩
theorem OpJ.geq {x y : Operand} {t t' : TypeId} {k : IntKind} {a b : Int} (ho : o.op = .binOp .geq t x y t') (hx : ev T x = some (.p (.int k a))) (hy : ev T y = some (.p (.int k b))) : OpJ P N o T H (.p (.bool (decide (b ≤ a)))) H :=
  OpJ.int2 ho hx hy fun w I => ⟨.bool (decide (b ≤ a)), by simp [Go.binOp, Op.intCmp], by simp [Rel]⟩
theorem OpJ.eql {x y : Operand} {t t' : TypeId} {k : IntKind} {a b : Int} (ho : o.op = .binOp .eql t x y t') (hx : ev T x = some (.p (.int k a))) (hy : ev T y = some (.p (.int k b))) : OpJ P N o T H (.p (.bool (decide (a = b)))) H :=
  OpJ.int2 ho hx hy fun w I => ⟨.bool (decide (a = b)), by simp [Go.binOp, Op.intCmp]; rfl, by simp [Rel]⟩
theorem OpJ.neq {x y : Operand} {t t' : TypeId} {k : IntKind} {a b : Int} (ho : o.op = .binOp .neq t x y t') (hx : ev T x = some (.p (.int k a))) (hy : ev T y = some (.p (.int k b))) : OpJ P N o T H (.p (.bool (!decide (a = b)))) H :=
  OpJ.int2 ho hx hy fun w I => ⟨.bool (!decide (a = b)), by simp [Go.binOp, Op.intCmp]; rfl, by simp [Rel]⟩
/-- Bits: whatever the model says. -/
theorem OpJ.bits {op : BinOp} {x y : Operand} {t t' : TypeId} {k : IntKind} {a b m : Int} (ho : o.op = .binOp op t x y t') (hop : op = .and ∨ op = .or ∨ op = .xor ∨ op = .andNot) (hx : ev T x = some (.p (.int k a))) (hy : ev T y = some (.p (.int k b)))
    (hm : ∀ w, (Op.intBits op k a b).run P w = .ok (.int k m) w) : OpJ P N o T H (.p (.int k m)) H :=
  OpJ.int2 ho hx hy fun w I => ⟨.int k m, by rcases hop with rfl | rfl | rfl | rfl <;> simp [Go.binOp, hm], by simp [Rel]⟩
theorem OpJ.shl {x y : Operand} {t t' : TypeId} {k k' : IntKind} {a b m : Int} (ho : o.op = .binOp .shl t x y t') (hx : ev T x = some (.p (.int k a))) (hy : ev T y = some (.p (.int k' b))) (hb : 0 ≤ b) (hw : k.wrap (a * 2 ^ (min b.toNat k.bits)) = m) : OpJ P N o T H (.p (.int k m)) H :=
  OpJ.of_pure (by simp [ho]) fun w I ρ ac hi ht => ⟨.int k m, by simp [execOp, ho, ev_int ht hx, ev_int ht hy, eqGuard_int, Go.binOp, Op.shift, Int.not_lt.2 hb, hw], by simp [RelV, Rel]⟩
theorem OpJ.shr {x y : Operand} {t t' : TypeId} {k k' : IntKind} {a b m : Int} (ho : o.op = .binOp .shr t x y t') (hx : ev T x = some (.p (.int k a))) (hy : ev T y = some (.p (.int k' b))) (hb : 0 ≤ b) (hw : a.fdiv (2 ^ (min b.toNat k.bits)) = m) : OpJ P N o T H (.p (.int k m)) H :=
  OpJ.of_pure (by simp [ho]) fun w I ρ ac hi ht => ⟨.int k m, by simp [execOp, ho, ev_int ht hx, ev_int ht hy, eqGuard_int, Go.binOp, Op.shift, Int.not_lt.2 hb, hw], by simp [RelV, Rel]⟩

/-! ### Types -/
def isAggD : TypeDesc → Bool
  | .struct _ => true
  | .array _ _ => true
  | _ => false
/-- Is a type's value an aggregate, and how many cells it has. -/
def tyI (P : Program) (t : TypeId) : Option (Bool × Nat) :=
  match P.underlying t, P.info? t with
  | some d, some i => some (isAggD d, i.size)
  | _, _ => none
theorem tyI_some {t : TypeId} {b : Bool} {n : Nat} (h : tyI P t = some (b, n)) : ∃ d i, P.underlying t = some d ∧ P.info? t = some i ∧ isAggD d = b ∧ i.size = n := by
  unfold tyI at h
  split at h
  · rename_i d i h1 h2
    simp at h
    exact ⟨d, i, h1, h2, h.1, h.2⟩
  · cases h
theorem run_isAgg' {t : TypeId} {b : Bool} {n : Nat} (h : tyI P t = some (b, n)) (w : World) : (isAgg t).run P w = .ok b w := by
  obtain ⟨d, i, h1, h2, rfl, h4⟩ := tyI_some h
  simp only [isAgg, Sem.run_bind, run_underlying h1, Result.andThen]
  cases d <;> rfl
theorem run_sizeOf' {t : TypeId} {b : Bool} {n : Nat} (h : tyI P t = some (b, n)) (w : World) : (sizeOf t).run P w = .ok n w := by
  obtain ⟨d, i, h1, h2, h3, h4⟩ := tyI_some h
  rw [run_sizeOf w h2]
  simp [Program.cellsOf, h2, h4]

theorem add_none (b o n : Nat) : (⟨b, o, none⟩ : Addr).add n = ⟨b, o + n, none⟩ := by
  unfold Addr.add
  split
  · rename_i h; subst h; rfl
  · rfl

theorem RelAt.get {w : World} {I : Nat → Prop} : ∀ {cs : List PV} {b o : Nat} {i : Nat} {c : PV}, RelAt w I cs b o → cs[i]? = some c → ∃ u, w.cell? ⟨b, o + i, none⟩ = some u ∧ Rel w I c u
  | [], _, _, _, _, _, h => by simp at h
  | x :: cs, b, o, 0, c, h, hc => by
    simp at hc; subst hc
    exact h.1
  | x :: cs, b, o, i + 1, c, h, hc => by
    simp at hc
    have := RelAt.get h.2 hc
    rwa [show o + 1 + i = o + (i + 1) by omega] at this
theorem RelAt.drop {w : World} {I : Nat → Prop} : ∀ {cs : List PV} {b o : Nat} (k : Nat), RelAt w I cs b o → RelAt w I (cs.drop k) b (o + k)
  | cs, _, _, 0, h => h
  | [], _, _, k + 1, h => by simp [RelAt]
  | x :: cs, b, o, k + 1, h => by
    have := RelAt.drop k h.2
    rw [show o + 1 + k = o + (k + 1) by omega] at this
    simpa using this
theorem RelAt.list {w : World} {I : Nat → Prop} : ∀ {cs : List PV} {b o : Nat}, RelAt w I cs b o → ∃ us : List Value, RelL w I cs us ∧ us.length = cs.length ∧ ∀ j v, us[j]? = some v → w.cell? ⟨b, o + j, none⟩ = some v
  | [], b, o, h => ⟨[], by simp [RelL], rfl, fun j v h => by simp at h⟩
  | x :: cs, b, o, h => by
    obtain ⟨⟨u, h1, h2⟩, h3⟩ := h
    obtain ⟨us, h4, h5, h6⟩ := RelAt.list h3
    refine ⟨u :: us, ⟨u, us, rfl, h2, h4⟩, by simp [h5], fun j v hj => ?_⟩
    cases j with
    | zero => simp at hj; subst hj; exact h1
    | succ j =>
      simp at hj
      have := h6 j v hj
      rwa [show o + 1 + j = o + (j + 1) by omega] at this
theorem RelAt.take {w : World} {I : Nat → Prop} : ∀ {cs : List PV} {b o : Nat} (k : Nat), RelAt w I cs b o → RelAt w I (cs.take k) b o
  | cs, _, _, 0, h => by simp [RelAt]
  | [], _, _, k + 1, h => by simp [RelAt]
  | x :: cs, b, o, k + 1, h => by
    simp only [List.take_succ_cons]
    exact ⟨h.1, RelAt.take k h.2⟩

theorem RelVL.pure {w : World} {I : Nat → Prop} {ρ : List Nat} : ∀ {xs : List PV} {us : List Value}, RelVL P w I ρ (xs.map .p) us ↔ RelL w I xs us
  | [], us => by simp [RelVL, RelL]
  | x :: xs, us => by
    simp only [List.map_cons, RelVL, RelL, RelV]
    constructor
    · rintro ⟨u, us', h1, h2, h3⟩; exact ⟨u, us', h1, h2, RelVL.pure.1 h3⟩
    · rintro ⟨u, us', h1, h2, h3⟩; exact ⟨u, us', h1, h2, RelVL.pure.2 h3⟩
def allP : List V → Option (List PV)
  | [] => some []
  | .p x :: vs => match allP vs with
    | some xs => some (x :: xs)
    | none => none
  | _ :: _ => none
theorem allP_some : ∀ {vs : List V} {xs : List PV}, allP vs = some xs → vs = xs.map .p
  | [], xs, h => by simp [allP] at h; simp [← h]
  | v :: vs, xs, h => by
    cases v <;> simp only [allP] at h <;> try cases h
    rename_i x
    cases h1 : allP vs with
    | none => rw [h1] at h; cases h
    | some ys => rw [h1] at h; simp at h; subst h; simp [allP_some h1]
def aggOf (vs : List V) : V := match allP vs with
  | some xs => .p (.agg xs)
  | none => .agg vs
theorem RelV.aggOf {w : World} {I : Nat → Prop} {ρ : List Nat} {vs : List V} {us : Array Value} (h : RelVL P w I ρ vs us.toList) : RelV P w I ρ (aggOf vs) (.agg us) := by
  unfold AF.aggOf
  cases hp : allP vs with
  | none => exact ⟨us, rfl, h⟩
  | some xs => rw [allP_some hp] at h; exact ⟨us, rfl, RelVL.pure.1 h⟩
theorem RelVL.drop {w : World} {I : Nat → Prop} {ρ : List Nat} : ∀ {vs : List V} {us : List Value} (k : Nat), RelVL P w I ρ vs us → RelVL P w I ρ (vs.drop k) (us.drop k)
  | vs, us, 0, h => by simpa using h
  | [], us, k + 1, h => by simp [RelVL] at h; simp [h, RelVL]
  | v :: vs, us, k + 1, h => by
    obtain ⟨u, us', rfl, _, h3⟩ := h
    simpa using RelVL.drop k h3
theorem RelVL.take {w : World} {I : Nat → Prop} {ρ : List Nat} : ∀ {vs : List V} {us : List Value} (k : Nat), RelVL P w I ρ vs us → RelVL P w I ρ (vs.take k) (us.take k)
  | vs, us, 0, h => by simp [RelVL]
  | [], us, k + 1, h => by simp [RelVL] at h; simp [h, RelVL]
  | v :: vs, us, k + 1, h => by
    obtain ⟨u, us', rfl, h2, h3⟩ := h
    exact ⟨u, _, rfl, h2, RelVL.take k h3⟩
theorem RelVL.get {w : World} {I : Nat → Prop} {ρ : List Nat} : ∀ {vs : List V} {us : List Value} {i : Nat} {v : V}, RelVL P w I ρ vs us → vs[i]? = some v → ∃ u, us[i]? = some u ∧ RelV P w I ρ v u
  | [], us, i, v, h, hv => by simp at hv
  | x :: vs, us, 0, v, h, hv => by
    obtain ⟨u, us', rfl, h2, h3⟩ := h
    simp at hv; subst hv
    exact ⟨u, rfl, h2⟩
  | x :: vs, us, i + 1, v, h, hv => by
    obtain ⟨u, us', rfl, h2, h3⟩ := h
    simp at hv
    simpa using RelVL.get h3 hv
theorem RelVL.set {w : World} {I : Nat → Prop} {ρ : List Nat} {v : V} {u : Value} (hv : RelV P w I ρ v u) : ∀ {vs : List V} {us : List Value} (i : Nat), RelVL P w I ρ vs us → RelVL P w I ρ (vs.set i v) (us.set i u)
  | [], us, i, h => by simp [RelVL] at h; simp [h, RelVL]
  | x :: vs, us, 0, h => by
    obtain ⟨u', us', rfl, h2, h3⟩ := h
    exact ⟨u, us', rfl, hv, h3⟩
  | x :: vs, us, i + 1, h => by
    obtain ⟨u', us', rfl, h2, h3⟩ := h
    exact ⟨u', _, rfl, h2, RelVL.set hv i h3⟩

/-! ### Loads -/
def blkCells : Option Blk → Option (List V)
  | some (.cells cs _) => some cs
  | some (.row cs _) => some cs
  | _ => none
def aload (H : List Blk) (b : Bool) (n : Nat) : V → Option V
  | .p (.ip cs off) => if b then (if off + n ≤ cs.length then some (.p (.agg ((cs.drop off).take n))) else none) else (cs[off]?).map .p
  | .ptr i off => match blkCells H[i]? with
    | some cs => if b then (if off + n ≤ cs.length then some (aggOf ((cs.drop off).take n)) else none) else cs[off]?
    | none => none
  | _ => none

theorem run_loadVar' {t : TypeId} {b : Bool} {n : Nat} {w : World} {blk off : Nat} (ht : tyI P t = some (b, n)) {us : List Value} (hl : b = true → us.length = n) (h0 : b = false → us.length = 1) (hc : ∀ j v, us[j]? = some v → w.cell? ⟨blk, off + j, none⟩ = some v) :
    (loadVar t ⟨blk, off, none⟩).run P w = .ok (if b then .agg us.toArray else us.getD 0 undef) w := by
  cases b with
  | true =>
    have := run_loadCells_list (P := P) w ⟨blk, off, none⟩ us (fun j v hj => by rw [add_none]; exact hc j v hj)
    rw [hl rfl] at this
    simp [loadVar, run_isAgg' ht, run_sizeOf' ht, this]
  | false =>
    have h1 := h0 rfl
    match us, h1 with
    | [u], _ =>
      have := hc 0 u rfl
      simp at this
      simp [loadVar, run_isAgg' ht, this]

/-- What an own block's cells hold. -/
theorem own_cells {w : World} {I : Nat → Prop} {ρ : List Nat} {i : Nat} {cs : List V} (hi : Inv P w I ρ H) (hc : blkCells H[i]? = some cs) :
    ∃ b arr e, ρ[i]? = some b ∧ w.heap[b]? = some (.cells arr e (0, 0)) ∧ cs.length ≤ arr.size ∧ RelVL P w I ρ cs (arr.toList.take cs.length) := by
  unfold blkCells at hc
  split at hc
  all_goals first
    | cases hc; done
    | (rename_i e hH
       have hlt : i < H.length := (List.getElem?_eq_some_iff.1 hH).1
       have hρ : ρ[i]? = some (ρ[i]'(by rw [hi.len]; exact hlt)) := List.getElem?_eq_getElem _
       cases hc
       have := hi.rel i _ _ hρ hH
       first
         | (obtain ⟨arr, h1, h2, h3⟩ := this; exact ⟨_, arr, e, hρ, h1, h2, h3⟩)
         | (obtain ⟨arr, h1, h2⟩ := this
            have hl := RelVL.length h2
            exact ⟨_, arr, e, hρ, h1, by simpa using Nat.le_of_eq hl.symm, by rw [← hl, List.take_length]; exact h2⟩))

theorem RelVL.p_one {w : World} {I : Nat → Prop} {ρ : List Nat} {v : V} {us : List Value} (h : RelVL P w I ρ [v] us) : ∃ u, us = [u] ∧ RelV P w I ρ v u := by
  obtain ⟨u, us', rfl, h2, h3⟩ := h
  simp [RelVL] at h3
  subst h3
  exact ⟨u, rfl, h2⟩

theorem run_aload {w : World} {I : Nat → Prop} {ρ : List Nat} {t : TypeId} {b : Bool} {n : Nat} {p v : V} {u : Value} (ht : tyI P t = some (b, n)) (hi : Inv P w I ρ H) (hp : RelV P w I ρ p u) (h : aload H b n p = some v) :
    ∃ a u', u = .pointer (some a) ∧ (loadVar t a).run P w = .ok u' w ∧ RelV P w I ρ v u' := by
  unfold aload at h
  split at h
  · rename_i cs off
    obtain ⟨blk, o', hb, hu, hat⟩ := hp
    cases b with
    | true =>
      simp only [if_true] at h
      split at h
      · rename_i hle
        simp at h; subst h
        obtain ⟨us, h1, h2, h3⟩ := RelAt.list (RelAt.take n (RelAt.drop off hat))
        have hlen : us.length = n := by rw [h2]; simp; omega
        refine ⟨_, _, hu, run_loadVar' ht (us := us) (fun _ => hlen) (fun h => by cases h) h3, ?_⟩
        exact ⟨us.toArray, rfl, by simpa using h1⟩
      · cases h
    | false =>
      simp only [Bool.false_eq_true, if_false, Option.map_eq_some_iff] at h
      obtain ⟨c, hc, rfl⟩ := h
      obtain ⟨u', h1, h2⟩ := RelAt.get hat hc
      refine ⟨_, _, hu, run_loadVar' ht (us := [u']) (fun h => by cases h) (fun _ => rfl) (fun j v hj => ?_), h2⟩
      match j, hj with
      | 0, hj => simp at hj; subst hj; simpa using h1
  · rename_i i off
    obtain ⟨blk, hρ, hu⟩ := hp
    cases hc : blkCells H[i]? with
    | none => rw [hc] at h; cases h
    | some cs =>
      rw [hc] at h
      obtain ⟨blk', arr, e, hρ', hw, hl, hrel⟩ := own_cells hi hc
      rw [hρ] at hρ'; cases hρ'
      have hcell : ∀ j v, (arr.toList)[j]? = some v → w.cell? ⟨blk, j, none⟩ = some v := fun j v hj => by simp [World.cell?, hw]; simpa using hj
      cases b with
      | true =>
        simp only [if_true] at h
        split at h
        · rename_i hle
          simp at h; subst h
          have h1 : RelVL P w I ρ ((cs.drop off).take n) (((arr.toList.take cs.length).drop off).take n) := (hrel.drop off).take n
          have h2 : ((arr.toList.take cs.length).drop off).take n = (arr.toList.drop off).take n := by
            rw [List.drop_take, List.take_take]
            congr 1
            omega
          rw [h2] at h1
          have hlen : ((arr.toList.drop off).take n).length = n := by simp; omega
          refine ⟨_, _, hu, run_loadVar' ht (us := (arr.toList.drop off).take n) (fun _ => hlen) (fun h => by cases h) (fun j v hj => ?_), RelV.aggOf (by simpa using h1)⟩
          rw [List.getElem?_take] at hj
          split at hj
          · rw [List.getElem?_drop] at hj; exact hcell _ _ hj
          · cases hj
        · cases h
      | false =>
        simp only [Bool.false_eq_true, if_false] at h
        obtain ⟨u', h1, h2⟩ := RelVL.get hrel h
        have h3 : arr.toList[off]? = some u' := by
          rw [List.getElem?_take] at h1
          split at h1
          · exact h1
          · cases h1
        refine ⟨_, _, hu, run_loadVar' ht (us := [u']) (fun h => by cases h) (fun _ => rfl) (fun j v hj => ?_), h2⟩
        match j, hj with
        | 0, hj => simp at hj; subst hj; exact hcell _ _ (by simpa using h3)
  · cases h

theorem OpJ.load {x : Operand} {t : TypeId} {b : Bool} {n : Nat} {p v : V} (ho : o.op = .load t x) (hx : ev T x = some p) (ht : tyI P t = some (b, n)) (hl : aload H b n p = some v) : OpJ P N o T H v H :=
  OpJ.of_pure (by simp [ho]) fun w I ρ a hi hT => by
    obtain ⟨ad, u', h1, h2, h3⟩ := run_aload ht hi (hT.ev hx) hl
    exact ⟨u', by simp [execOp, ho, Instr.loadAt, h1, Instr.sureAddr, h2], h3⟩
end
end Go.AF
