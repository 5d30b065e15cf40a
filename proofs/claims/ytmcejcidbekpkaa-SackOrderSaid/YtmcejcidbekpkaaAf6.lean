/-
  Addresses, aggregates, lengths, calls and results, over abstract states. No condition; generic over any program.
-/
import Derived.Test.YtmcejcidbekpkaaAf5
set_option linter.unusedVariables false
set_option linter.unusedSimpArgs false
namespace Go.AF
section
variable {P : Program} {R : Option Nat} {N κ : Nat} {Q Q' : Post} {T T' : Tm} {H : List Blk} {o : Oper}

/-! ### Addresses -/
def shift (n : Nat) : V → Option V
  | .p (.ip cs off) => some (.p (.ip cs (off + n)))
  | .ptr i off => some (.ptr i (off + n))
  | _ => none
theorem shift_rel {w : World} {I : Nat → Prop} {ρ : List Nat} {p v : V} {u : Value} {n : Nat} (h : RelV P w I ρ p u) (hs : shift n p = some v) : ∃ a, u = .pointer (some a) ∧ RelV P w I ρ v (.pointer (some (a.add n))) := by
  unfold shift at hs
  split at hs
  · simp at hs; subst hs
    obtain ⟨b, o, hb, rfl, hat⟩ := h
    exact ⟨_, rfl, b, o, hb, by rw [add_none, Nat.add_assoc], hat⟩
  · simp at hs; subst hs
    obtain ⟨b, hb, rfl⟩ := h
    exact ⟨_, rfl, b, hb, by rw [add_none]⟩
  · cases hs

/-- Where a field lies. -/
def fldI (P : Program) (s : TypeId) (f : Nat) : Option Nat :=
  match P.underlying s with
  | some (.struct fs) => match fs[f]? with
    | some fd => match tyI P fd.type with
      | some (_, n) => if n = 0 then none else some fd.offset
      | none => none
    | none => none
  | _ => none
theorem OpJ.fieldAddr {x : Operand} {s : TypeId} {f n : Nat} {p v : V} (ho : o.op = .fieldAddr s x f) (hx : ev T x = some p) (hf : fldI P s f = some n) (hs : shift n p = some v) : OpJ P N o T H v H :=
  OpJ.of_pure (by simp [ho]) fun w I ρ a hi ht => by
    obtain ⟨ad, hu, hr⟩ := shift_rel (ht.ev hx) hs
    unfold fldI at hf
    split at hf
    · rename_i fs hfs
      split at hf
      · rename_i fd hfd
        split at hf
        · rename_i b k htk
          split at hf
          · cases hf
          · rename_i hk
            simp at hf
            refine ⟨_, ?_, hr⟩
            simp [execOp, ho, Instr.fieldAt, run_underlying hfs, hfd, hu, Instr.sureAddr, fieldPlace, run_sizeOf' htk, hk, hf]
        · cases hf
      · cases hf
    · cases hf

/-- The size of an element. -/
def elI (P : Program) (t : TypeId) : Option Nat :=
  match P.underlying t with
  | some (.slice e) => (tyI P e).map (·.2)
  | some (.array _ e) => (tyI P e).map (·.2)
  | _ => none
def arrI (P : Program) (t : TypeId) : Option Nat :=
  match P.underlying t with
  | some (.array n _) => some n
  | _ => none
def isSl (P : Program) (t : TypeId) : Bool :=
  match P.underlying t with
  | some (.slice _) => true
  | _ => false
/-- Where an element of a slice lies. -/
def aindex (sz : Nat) (k : Nat) : V → Option V
  | .p (.is cs len) => if k < len then some (.p (.ip cs (k * sz))) else none
  | .row i len => if k < len then some (.ptr i (k * sz)) else none
  | .sl i off len => if k < len then some (.ptr i (off + k * sz)) else none
  | _ => none

theorem run_asIntOf {k : IntKind} {n : Int} (w : World) : (asIntOf (.int k n)).run P w = .ok (k, n) w := rfl

theorem OpJ.indexSlice {x y : Operand} {t : TypeId} {kd : IntKind} {sz : Nat} {n : Int} {p v : V} (ho : o.op = .indexAddr t x y) (hx : ev T x = some p) (hy : ev T y = some (.p (.int kd n))) (ht : isSl P t = true) (he : elI P t = some sz)
    (hcs : ∀ cs len, p = .p (.is cs len) → 0 < len → cs ≠ []) (h0 : 0 ≤ n) (hs : aindex sz n.toNat p = some v) : OpJ P N o T H v H :=
  OpJ.of_pure (by simp [ho]) fun w I ρ a hi hT => by
    have hn := ev_int hT hy
    have hr := hT.ev hx
    cases hu : P.underlying t with
    | none => simp [isSl, hu] at ht
    | some d =>
      cases d <;> simp [isSl, hu] at ht
      rename_i e
      simp only [elI, hu, Option.map_eq_some_iff] at he
      obtain ⟨⟨b, m⟩, htm, rfl⟩ := he
      have fin : ∀ (ad : Addr) (len cap : Nat) (v : V), a.eval x = .slice (some ad) len cap → n.toNat < len → RelV P w I ρ v (.pointer (some (ad.add (n.toNat * m)))) →
          ∃ u, (execOp a.eval o).run P w = .ok (.value u) w ∧ RelV P w I ρ v u := by
        intro ad len cap v hsl hlt hv
        refine ⟨_, ?_, hv⟩
        have hlt' : n < (len : Int) := by omega
        simp [execOp, ho, Instr.indexAt, hn, run_asIntOf, hsl, run_underlying hu, h0, hlt', run_sizeOf' htm]
      unfold aindex at hs
      split at hs
      · rename_i cs len
        split at hs
        · rename_i hlt
          simp at hs; subst hs
          rcases hr with ⟨_, hz⟩ | ⟨blk, off, cap, hb, hle, hsl, hat⟩
          · omega
          · refine fin _ _ _ _ hsl hlt ⟨blk, off, hb (hcs cs len rfl (by omega)), by rw [add_none], hat⟩
        · cases hs
      · rename_i i len
        split at hs
        · rename_i hlt
          simp at hs; subst hs
          obtain ⟨blk, e', cap, hρ, hsl, _, _⟩ := hr
          exact fin _ _ _ _ hsl hlt ⟨blk, hρ, by rw [add_none, Nat.zero_add]⟩
        · cases hs
      · rename_i i off len
        split at hs
        · rename_i hlt
          simp at hs; subst hs
          obtain ⟨blk, cap, hρ, hsl, _⟩ := hr
          exact fin _ _ _ _ hsl hlt ⟨blk, hρ, by rw [add_none]⟩
        · cases hs
      · cases hs

theorem OpJ.indexArr {x y : Operand} {t : TypeId} {kd : IntKind} {sz len : Nat} {n : Int} {p v : V} (ho : o.op = .indexAddr t x y) (hx : ev T x = some p) (hy : ev T y = some (.p (.int kd n))) (ht : arrI P t = some len) (he : elI P t = some sz)
    (h0 : 0 ≤ n) (hl : n < len) (hs : shift (n.toNat * sz) p = some v) : OpJ P N o T H v H :=
  OpJ.of_pure (by simp [ho]) fun w I ρ a hi hT => by
    have hn := ev_int hT hy
    obtain ⟨ad, hu, hr⟩ := shift_rel (hT.ev hx) hs
    cases hd : P.underlying t with
    | none => simp [arrI, hd] at ht
    | some d =>
      cases d <;> simp [arrI, hd] at ht
      rename_i m e
      subst ht
      simp only [elI, hd, Option.map_eq_some_iff] at he
      obtain ⟨⟨b, m'⟩, htm, rfl⟩ := he
      refine ⟨_, ?_, hr⟩
      simp [execOp, ho, Instr.indexAt, hn, run_asIntOf, hu, Instr.sureAddr, run_underlying hd, h0, hl, run_sizeOf' htm]

/-! ### Parts of aggregates -/
theorem extract_list (us : Array Value) (off n : Nat) : (us.extract off (off + n)).toList = (us.toList.drop off).take n := by
  rw [Array.toList_extract, List.extract_eq_take_drop, Nat.add_sub_cancel_left]
def apart (b : Bool) (n off : Nat) : V → Option V
  | .p (.agg cs) => if b then (if off + n ≤ cs.length then some (.p (.agg ((cs.drop off).take n))) else none) else (cs[off]?).map .p
  | .agg cs => if b then (if off + n ≤ cs.length then some (aggOf ((cs.drop off).take n)) else none) else cs[off]?
  | _ => none
theorem run_part {w : World} {I : Nat → Prop} {ρ : List Nat} {t : TypeId} {b : Bool} {n off : Nat} {p v : V} {u : Value} (ht : tyI P t = some (b, n)) (hp : RelV P w I ρ p u) (h : apart b n off p = some v) :
    ∃ us u', u = .agg us ∧ (part t us off).run P w = .ok u' w ∧ RelV P w I ρ v u' := by
  have gen : ∀ (vs : List V) (us : Array Value), RelVL P w I ρ vs us.toList → (if b then (if off + n ≤ vs.length then some (aggOf ((vs.drop off).take n)) else none) else vs[off]?) = some v → ∃ u', (part t us off).run P w = .ok u' w ∧ RelV P w I ρ v u' := by
    intro vs us hr h
    cases b with
    | true =>
      simp only [if_true] at h
      split at h
      · rename_i hle
        simp at h; subst h
        refine ⟨.agg (us.extract off (off + n)), by simp [part, run_isAgg' ht, run_sizeOf' ht], RelV.aggOf ?_⟩
        rw [extract_list]
        exact (hr.drop off).take n
      · cases h
    | false =>
      simp only [Bool.false_eq_true, if_false] at h
      obtain ⟨u', h1, h2⟩ := RelVL.get hr h
      exact ⟨u', by simp at h1; simp [part, run_isAgg' ht, h1], h2⟩
  unfold apart at h
  split at h
  · rename_i cs
    obtain ⟨us, rfl, hr⟩ := hp
    have hr' := RelVL.pure (P := P) (ρ := ρ).2 hr
    cases b with
    | true =>
      simp only [if_true] at h
      split at h
      · rename_i hle
        simp at h; subst h
        refine ⟨us, .agg (us.extract off (off + n)), rfl, by simp [part, run_isAgg' ht, run_sizeOf' ht], ?_⟩
        have := (hr'.drop off).take n
        rw [← List.map_drop, ← List.map_take] at this
        refine ⟨_, rfl, ?_⟩
        rw [extract_list]
        exact RelVL.pure.1 this
      · cases h
    | false =>
      simp only [Bool.false_eq_true, if_false, Option.map_eq_some_iff] at h
      obtain ⟨c, hc, rfl⟩ := h
      obtain ⟨u', h1, h2⟩ := RelVL.get (v := .p c) (i := off) hr' (by simp [hc])
      exact ⟨us, u', rfl, by simp at h1; simp [part, run_isAgg' ht, h1], h2⟩
  · rename_i cs
    obtain ⟨us, rfl, hr⟩ := hp
    obtain ⟨u', h1, h2⟩ := gen cs us hr h
    exact ⟨us, u', rfl, h1, h2⟩
  · cases h

/-- A field: its type's shape and its place. -/
def fldV (P : Program) (s : TypeId) (f : Nat) : Option (Bool × Nat × Nat) :=
  match P.underlying s with
  | some (.struct fs) => match fs[f]? with
    | some fd => (tyI P fd.type).map fun x => (x.1, x.2, fd.offset)
    | none => none
  | _ => none
theorem OpJ.field {x : Operand} {s : TypeId} {f n off : Nat} {b : Bool} {p v : V} (ho : o.op = .field s x f) (hx : ev T x = some p) (hf : fldV P s f = some (b, n, off)) (hs : apart b n off p = some v) : OpJ P N o T H v H :=
  OpJ.of_pure (by simp [ho]) fun w I ρ a hi ht => by
    unfold fldV at hf
    split at hf
    · rename_i fs hfs
      split at hf
      · rename_i fd hfd
        simp only [Option.map_eq_some_iff] at hf
        obtain ⟨⟨b', n'⟩, htk, he⟩ := hf
        simp at he
        obtain ⟨rfl, rfl, rfl⟩ := he
        obtain ⟨us, u', h1, h2, h3⟩ := run_part htk (ht.ev hx) hs
        exact ⟨u', by simp [execOp, ho, Instr.field, run_underlying hfs, hfd, h1, asAgg, h2], h3⟩
      · cases hf
    · cases hf
/-- An element of an array value. -/
def arrV (P : Program) (t : TypeId) : Option (Nat × Bool × Nat) :=
  match P.underlying t with
  | some (.array len e) => (tyI P e).map fun x => (len, x.1, x.2)
  | _ => none
theorem OpJ.indexV {x y : Operand} {t : TypeId} {kd : IntKind} {n : Int} {len sz : Nat} {b : Bool} {p v : V} (ho : o.op = .index t x y) (hx : ev T x = some p) (hy : ev T y = some (.p (.int kd n))) (ht : arrV P t = some (len, b, sz))
    (h0 : 0 ≤ n) (hl : n < len) (hs : apart b sz (n.toNat * sz) p = some v) : OpJ P N o T H v H :=
  OpJ.of_pure (by simp [ho]) fun w I ρ a hi hT => by
    have hn := ev_int hT hy
    unfold arrV at ht
    split at ht
    · rename_i len' e hd
      simp only [Option.map_eq_some_iff] at ht
      obtain ⟨⟨b', n'⟩, htk, he⟩ := ht
      simp at he
      obtain ⟨rfl, rfl, rfl⟩ := he
      obtain ⟨us, u', h1, h2, h3⟩ := run_part htk (hT.ev hx) hs
      refine ⟨u', ?_, h3⟩
      simp [execOp, ho, Instr.index, hn, run_asIntOf, run_underlying hd, h1, h0, hl, run_sizeOf' htk, h2]
    · cases ht
/-- A byte of a string. -/
theorem OpJ.indexStr {x y : Operand} {t : TypeId} {kd : IntKind} {n : Int} {s : ByteArray} {c : UInt8} (ho : o.op = .index t x y) (hx : ev T x = some (.p (.str s))) (hy : ev T y = some (.p (.int kd n))) (ht : P.underlying t = some .string)
    (h0 : 0 ≤ n) (hs : s[n.toNat]? = some c) : OpJ P N o T H (.p (.int .u8 c.toNat)) H :=
  OpJ.of_pure (by simp [ho]) fun w I ρ a hi hT => by
    have hn := ev_int hT hy
    have hst := ev_str hT hx
    exact ⟨.int .u8 c.toNat, by simp [execOp, ho, Instr.index, hn, run_asIntOf, hst, run_underlying ht, h0, hs], by simp [RelV, Rel]⟩

/-! ### Building -/
def placesOf (P : Program) : List Field → Option (List (Nat × Nat))
  | [] => some []
  | f :: fs => match tyI P f.type, placesOf P fs with
    | some x, some r => some ((f.offset, x.2) :: r)
    | _, _ => none
/-- The places of a type's parts, and its zero cells. -/
def bldI (P : Program) (t : TypeId) : Option (List PV × List (Nat × Nat)) :=
  match zeroI P t, P.underlying t with
  | some (.agg z), some (.struct fs) => match placesOf P fs.toList with
    | some ps => some (z, ps)
    | none => none
  | some (.agg z), some (.array n e) => match tyI P e with
    | some (_, sz) => some (z, (List.range n).map fun i => (i * sz, sz))
    | none => none
  | _, _ => none
def abuild (ps : List (Nat × Nat)) (cells : List V) : List (Nat × V) → Option (List V)
  | [] => some cells
  | (i, v) :: rest => match ps[i]? with
    | none => none
    | some (off, sz) => if (cellsV v).length = sz ∧ off + (cellsV v).length ≤ cells.length ∧ cellsOk v = true then abuild ps (setAt cells off (cellsV v)) rest else none
def evParts (T : Tm) : List (Nat × Operand) → Option (List (Nat × V))
  | [] => some []
  | (i, x) :: r => match ev T x, evParts T r with
    | some v, some vs => some ((i, v) :: vs)
    | _, _ => none

theorem foldl_cells {w : World} {I : Nat → Prop} {ρ : List Nat} : ∀ (vs : List V) (us : List Value) (cs : List V) (arr : Array Value) (off j : Nat), RelVL P w I ρ vs us → RelVL P w I ρ cs arr.toList →
    RelVL P w I ρ (setAt cs (off + j) vs) ((us.zipIdx j).foldl (fun (cs : Array Value) (x : Value × Nat) => cs.setIfInBounds (off + x.2) x.1) arr).toList
  | [], us, cs, arr, off, j, h, hc => by simp [RelVL] at h; subst h; exact hc
  | v :: vs, us, cs, arr, off, j, h, hc => by
    obtain ⟨u, us', rfl, h1, h2⟩ := h
    simp only [List.zipIdx_cons, List.foldl_cons, setAt]
    exact foldl_cells vs us' (cs.set (off + j) v) _ off (j + 1) h2 (by
      rw [Array.toList_setIfInBounds]
      exact RelVL.set h1 _ hc)

theorem fill_rel {w : World} {I : Nat → Prop} {ρ : List Nat} {ps : List (Nat × Nat)} {place : Nat → Option (Nat × Nat)} (hp : ∀ i x, ps[i]? = some x → place i = some x) : ∀ (vs : List (Nat × V)) (us : List (Nat × Value)) (cs : List V) (arr : Array Value) (r : List V),
    us.map (·.1) = vs.map (·.1) → RelVL P w I ρ (vs.map (·.2)) (us.map (·.2)) → RelVL P w I ρ cs arr.toList → abuild ps cs vs = some r → ∃ arr', Instr.fill place arr us = some arr' ∧ RelVL P w I ρ r arr'.toList
  | [], us, cs, arr, r, hm, _, hc, h => by
    have : us = [] := by simpa using hm
    subst this
    simp [abuild] at h; subst h
    exact ⟨arr, rfl, hc⟩
  | (i, v) :: vs, us, cs, arr, r, hm, hr, hc, h => by
    match us, hm, hr with
    | (i', u) :: us', hm, hr =>
      simp only [List.map_cons, List.cons.injEq] at hm
      obtain ⟨hi0, hm1⟩ := hm
      subst hi0
      obtain ⟨u0, us0, he, h1, h2⟩ := hr
      simp at he
      obtain ⟨rfl, rfl⟩ := he
      simp only [abuild] at h
      split at h
      · cases h
      · rename_i off sz hps
        split at h
        case isFalse => cases h
        case isTrue hyes =>
          obtain ⟨hlen, hle, hok⟩ := hyes
          have hcells := cells_rel h1 hok
          have hl := RelVL.length hcells
          have hcl := RelVL.length hc
          have := foldl_cells (cellsV v) u.cells.toList cs arr off 0 hcells hc
          obtain ⟨arr', h5, h6⟩ := fill_rel hp vs us' _ _ r hm1 h2 (by simpa using this) h
          refine ⟨arr', ?_, h6⟩
          have e1 : u.cells.size = sz := by rw [← hlen, ← hl]; simp
          have e2 : ¬ (off + u.cells.size > arr.size) := by
            have : arr.size = cs.length := by simpa using hcl
            rw [e1, this, ← hlen]
            exact Nat.not_lt.2 hle
          simp only [Instr.fill, hp _ _ hps, e1]
          rw [if_neg (by simp; rw [← e1]; omega)]
          rw [← h5]
          congr 1
          have e3 : u.cells.zipIdx.toList = u.cells.toList.zipIdx := by simp
          rw [← Array.foldl_toList, e3]

theorem evParts_rel {w : World} {I : Nat → Prop} {ρ : List Nat} {a : Act} (hT : TRel P w I ρ N T a.tmps) : ∀ {xs : List (Nat × Operand)} {vs : List (Nat × V)}, evParts T xs = some vs → (xs.map fun x => (x.1, a.eval x.2)).map (·.1) = vs.map (·.1) ∧ RelVL P w I ρ (vs.map (·.2)) ((xs.map fun x => (x.1, a.eval x.2)).map (·.2))
  | [], vs, h => by simp [evParts] at h; subst h; simp [RelVL]
  | (i, x) :: xs, vs, h => by
    simp only [evParts] at h
    split at h
    · rename_i v vs' h1 h2
      simp at h; subst h
      obtain ⟨h3, h4⟩ := evParts_rel hT h2
      exact ⟨by simp at h3; simp [h3], _, _, rfl, hT.ev h1, h4⟩
    · cases h

theorem run_places {w : World} : ∀ (fs : List Field) (ps : List (Nat × Nat)), placesOf P fs = some ps → (fs.mapM (m := Sem) fun f => do pure (f.offset, ← sizeOf f.type)).run P w = .ok ps w
  | [], ps, h => by simp [placesOf] at h; subst h; simp
  | f :: fs, ps, h => by
    simp only [placesOf] at h
    split at h
    · rename_i x r h1 h2
      simp at h; subst h
      have ih := run_places (w := w) fs r h2
      simp only [List.mapM_cons, Sem.run_bind, run_sizeOf' h1, Result.andThen, Sem.run_pure, ih]
    · cases h

theorem OpJ.build {t : TypeId} {parts : Array (Nat × Operand)} {z : List PV} {ps : List (Nat × Nat)} {vs : List (Nat × V)} {r : List V} (ho : o.op = .build t parts) (hb : bldI P t = some (z, ps)) (hv : evParts T parts.toList = some vs) (hr : abuild ps (z.map .p) vs = some r) : OpJ P N o T H (aggOf r) H :=
  OpJ.of_pure (by simp [ho]) fun w I ρ a hi hT => by
    obtain ⟨hm, hrel⟩ := evParts_rel hT hv
    have hparts : (parts.map fun (x : Nat × Operand) => (x.1, a.eval x.2)).toList = parts.toList.map fun x => (x.1, a.eval x.2) := by simp
    unfold bldI at hb
    split at hb
    · rename_i z' fs hz hu
      split at hb
      · rename_i ps' hps
        simp at hb
        obtain ⟨rfl, rfl⟩ := hb
        obtain ⟨u, h1, h2⟩ := run_zero hz w
        obtain ⟨us, rfl, h3⟩ := h2 I
        have hplaces : (fs.mapM (m := Sem) fun f => do pure (f.offset, ← sizeOf f.type)).run P w = .ok ps'.toArray w := by
          have := run_places (w := w) fs.toList ps' hps
          rw [Array.mapM_eq_mapM_toList, Sem.run_map, this]
          rfl
        obtain ⟨arr', h5, h6⟩ := fill_rel (place := fun i => ps'.toArray[i]?) (fun i x h => by simpa using h) vs _ _ us r hm hrel (RelVL.pure.2 h3) hr
        refine ⟨.agg arr', ?_, RelV.aggOf h6⟩
        simp only [execOp, ho, Instr.build, Sem.run_bind, h1, Result.andThen, run_underlying hu, hplaces, Value.cells]
        rw [show (Array.map (fun (x : Nat × Operand) => match x with | (i, x) => (i, a.eval x)) parts).toList = parts.toList.map fun x => (x.1, a.eval x.2) by simp]
        rw [h5]
        rfl
      · cases hb
    · rename_i z' n e hz hu
      split at hb
      · rename_i b sz htk
        simp at hb
        obtain ⟨rfl, rfl⟩ := hb
        obtain ⟨u, h1, h2⟩ := run_zero hz w
        obtain ⟨us, rfl, h3⟩ := h2 I
        obtain ⟨arr', h5, h6⟩ := fill_rel (place := fun i => some (i * sz, sz)) (fun i x h => by
          simp [List.getElem?_map, Option.map_eq_some_iff] at h
          obtain ⟨a', ha, rfl⟩ := h
          rw [List.getElem?_range] at ha
          · simp at ha; subst ha; rfl
          · rcases Nat.lt_or_ge i n with h' | h'
            · exact h'
            · rw [List.getElem?_eq_none (by simpa using h')] at ha; cases ha) vs _ _ us r hm hrel (RelVL.pure.2 h3) hr
        refine ⟨.agg arr', ?_, RelV.aggOf h6⟩
        simp only [execOp, ho, Instr.build, Sem.run_bind, h1, Result.andThen, run_underlying hu, run_sizeOf' htk, Value.cells]
        rw [show (Array.map (fun (x : Nat × Operand) => match x with | (i, x) => (i, a.eval x)) parts).toList = parts.toList.map fun x => (x.1, a.eval x.2) by simp]
        rw [h5]
        rfl
      · cases hb
    · cases hb

/-! ### Tuples, functions, lengths -/
def atup (k : Nat) : V → Option V
  | .p (.tuple vs) => (vs[k]?).map .p
  | .tuple vs => vs[k]?
  | _ => none
theorem OpJ.extract {x : Operand} {k : Nat} {p v : V} (ho : o.op = .extract x k) (hx : ev T x = some p) (hk : atup k p = some v) : OpJ P N o T H v H :=
  OpJ.of_pure (by simp [ho]) fun w I ρ a hi hT => by
    have hr := hT.ev hx
    unfold atup at hk
    split at hk
    · simp only [Option.map_eq_some_iff] at hk
      obtain ⟨c, hc, rfl⟩ := hk
      obtain ⟨us, hu, hl⟩ := hr
      obtain ⟨u', h1, h2⟩ := RelVL.get (v := .p c) (i := k) (RelVL.pure (P := P) (ρ := ρ).2 hl) (by simp [hc])
      simp at h1
      exact ⟨u', by simp [execOp, ho, Instr.extract, hu, h1], h2⟩
    · obtain ⟨us, hu, hl⟩ := hr
      obtain ⟨u', h1, h2⟩ := RelVL.get hl hk
      simp at h1
      exact ⟨u', by simp [execOp, ho, Instr.extract, hu, h1], h2⟩
    · cases hk

def funcOf (fn : Fn) (fi ca : List V) : V := match allP fi, allP ca with
  | some xs, some ys => .p (.func fn xs ys)
  | _, _ => .func fn fi ca
theorem OpJ.makeFunc {fn : Fn} {first captured : Array Operand} {fi ca : List V} (ho : o.op = .makeFunc fn first captured) (h1 : evs T first.toList = some fi) (h2 : evs T captured.toList = some ca) : OpJ P N o T H (funcOf fn fi ca) H :=
  OpJ.of_pure (by simp [ho]) fun w I ρ a hi hT => by
    have r1 := hT.evs h1
    have r2 := hT.evs h2
    refine ⟨.func fn (first.map a.eval) (captured.map a.eval), by simp [execOp, ho, Instr.makeFunc], ?_⟩
    unfold funcOf
    split
    · rename_i xs ys e1 e2
      rw [allP_some e1] at r1
      rw [allP_some e2] at r2
      exact ⟨_, _, rfl, by simpa using RelVL.pure.1 r1, by simpa using RelVL.pure.1 r2⟩
    · exact ⟨_, _, rfl, by simpa using r1, by simpa using r2⟩

/-- What 'len' says. -/
def alen : V → Option Nat
  | .p (.is _ len) => some len
  | .p .nilSlice => some 0
  | .row _ len => some len
  | .sl _ _ len => some len
  | _ => none
theorem OpJ.lenSlice {x : Operand} {t : TypeId} {n : Nat} {p : V} (ho : o.op = .call { callee := .builtin .len, args := #[x], argTypes := #[t] }) (hx : ev T x = some p) (ht : isSl P t = true) (hn : alen p = some n) : OpJ P N o T H (.p (.int .i64 n)) H :=
  OpJ.of_pure (by simp [ho]) fun w I ρ a hi hT => by
    have hr := hT.ev hx
    have hsl : ∃ ad cap, a.eval x = .slice ad n cap := by
      unfold alen at hn
      split at hn <;> try cases hn
      · rcases hr with ⟨h1, h2⟩ | ⟨b, o, cap, _, _, h1, _⟩
        · subst h2; exact h1
        · exact ⟨_, _, h1⟩
      · exact ⟨_, _, hr⟩
      · obtain ⟨b, e, cap, _, h1, _⟩ := hr; exact ⟨_, _, h1⟩
      · obtain ⟨b, cap, _, h1, _⟩ := hr; exact ⟨_, _, h1⟩
    obtain ⟨ad, cap, hs⟩ := hsl
    cases hu : P.underlying t with
    | none => simp [isSl, hu] at ht
    | some d =>
      cases d <;> simp [isSl, hu] at ht
      exact ⟨.int .i64 n, by simp [execOp, ho, resolve, invoke, builtin, Builtin.len_, run_underlying hu, hs, goInt], by simp [RelV, Rel]⟩
theorem OpJ.lenStr {x : Operand} {t : TypeId} {s : ByteArray} (ho : o.op = .call { callee := .builtin .len, args := #[x], argTypes := #[t] }) (hx : ev T x = some (.p (.str s))) (ht : P.underlying t = some .string) : OpJ P N o T H (.p (.int .i64 s.size)) H :=
  OpJ.of_pure (by simp [ho]) fun w I ρ a hi hT => by
    exact ⟨.int .i64 s.size, by simp [execOp, ho, resolve, invoke, builtin, Builtin.len_, run_underlying ht, ev_str hT hx, goInt], by simp [RelV, Rel]⟩
theorem OpJ.min2 {x y : Operand} {ts : Array TypeId} {k : IntKind} {a b : Int} (ho : o.op = .call { callee := .builtin .min, args := #[x, y], argTypes := ts }) (hx : ev T x = some (.p (.int k a))) (hy : ev T y = some (.p (.int k b))) : OpJ P N o T H (.p (.int k (min a b))) H :=
  OpJ.of_pure (by simp [ho]) fun w I ρ ac hi hT => by
    refine ⟨.int k (if b < a then b else a), by simp [execOp, ho, resolve, invoke, builtin, Builtin.min_, Builtin.min2, ev_int hT hx, ev_int hT hy], ?_⟩
    simp only [RelV, Rel, Value.int.injEq, true_and]
    split <;> omega
theorem OpJ.max2 {x y : Operand} {ts : Array TypeId} {k : IntKind} {a b : Int} (ho : o.op = .call { callee := .builtin .max, args := #[x, y], argTypes := ts }) (hx : ev T x = some (.p (.int k a))) (hy : ev T y = some (.p (.int k b))) : OpJ P N o T H (.p (.int k (max a b))) H :=
  OpJ.of_pure (by simp [ho]) fun w I ρ ac hi hT => by
    refine ⟨.int k (if b > a then b else a), by simp [execOp, ho, resolve, invoke, builtin, Builtin.max_, Builtin.max2, ev_int hT hx, ev_int hT hy], ?_⟩
    simp only [RelV, Rel, Value.int.injEq, true_and]
    split <;> omega
theorem OpJ.convInt {x : Operand} {s d : TypeId} {k k' : IntKind} {n m : Int} (ho : o.op = .convert s d x) (hx : ev T x = some (.p (.int k n))) (hs : (P.underlying s).isSome = true) (hd : P.underlying d = some (.int k')) (hw : k'.wrap n = m) : OpJ P N o T H (.p (.int k' m)) H :=
  OpJ.of_pure (by simp [ho]) fun w I ρ a hi hT => by
    obtain ⟨ds, hs'⟩ := Option.isSome_iff_exists.1 hs
    refine ⟨.int k' m, ?_, by simp [RelV, Rel]⟩
    simp [execOp, ho, convert, run_underlying hs', run_underlying hd, ev_int hT hx, Conv.intToInt, hw]

/-! ### Calls -/
/-- A function of the program's own text. -/
def realFn (P : Program) (f : FuncId) : Bool :=
  match P.funcs[f]? with
  | some fn => fn.body.isSome && fn.name != "runtime.NumGoroutine"
  | none => false
theorem run_callFunc {f : FuncId} (h : realFn P f = true) (args : Array Value) (w : World) : (callFunc f args).run P w = .ok (.enter f args) w := by
  unfold realFn at h
  cases hf : P.funcs[f]? with
  | none => rw [hf] at h; cases h
  | some fn =>
    rw [hf] at h
    simp only [Bool.and_eq_true, bne_iff_ne, ne_eq] at h
    obtain ⟨h1, h2⟩ := h
    obtain ⟨c, hc⟩ := Option.isSome_iff_exists.1 h1
    simp [callFunc, program, Sem.run, hf, h2, hc]

theorem callsIn_fr {n : Nat} {f : FuncId} {args : Array Value} {w : World} {Rr : Ending → World → Prop} (R : Option Nat) (h : CallsIn Fence.wide n P f args w Rr) : CallsIn (Fr R) n P f args w Rr := h

/-- The value called: its function, and all arguments. -/
def callee (args : List V) : V → Option (FuncId × List V)
  | .p (.func (.func f) fi ca) => some (f, fi.map .p ++ args ++ ca.map .p)
  | .func (.func f) fi ca => some (f, fi ++ args ++ ca)
  | _ => none

theorem RelVL.append {w : World} {I : Nat → Prop} {ρ : List Nat} : ∀ {xs ys : List V} {us vs : List Value}, RelVL P w I ρ xs us → RelVL P w I ρ ys vs → RelVL P w I ρ (xs ++ ys) (us ++ vs)
  | [], ys, us, vs, h, k => by simp [RelVL] at h; subst h; exact k
  | x :: xs, ys, us, vs, h, k => by
    obtain ⟨u, us', rfl, h1, h2⟩ := h
    exact ⟨u, us' ++ vs, rfl, h1, RelVL.append h2 k⟩

theorem run_callOp {w : World} {I : Nat → Prop} {ρ : List Nat} {a : Act} {f : Operand} {xs : Array Operand} {ts : Array TypeId} {fv : V} {vs all : List V} {g : FuncId} (ho : o.op = .call { callee := .value f, args := xs, argTypes := ts }) (hT : TRel P w I ρ N T a.tmps) (hf : ev T f = some fv)
    (hxs : evs T xs.toList = some vs) (hc : callee vs fv = some (g, all)) (hg : realFn P g = true) : ∃ us : List Value, RelVL P w I ρ all us ∧ (execOp a.eval o).run P w = .ok (.enter g us.toArray) w := by
  have h1 := hT.ev hf
  have h2 := hT.evs hxs
  unfold callee at hc
  split at hc
  · rename_i f' fi ca
    simp at hc
    obtain ⟨rfl, rfl⟩ := hc
    obtain ⟨us, vs', hu, h3, h4⟩ := h1
    refine ⟨us.toList ++ (xs.toList.map a.eval) ++ vs'.toList, ?_, ?_⟩
    · have := RelVL.append (RelVL.append (RelVL.pure (P := P) (ρ := ρ).2 h3) h2) (RelVL.pure (P := P) (ρ := ρ).2 h4)
      simpa using this
    · simp [execOp, ho, resolve, hu, Deferred.ofValue, invoke, run_callFunc hg]
  · rename_i f' fi ca
    simp at hc
    obtain ⟨rfl, rfl⟩ := hc
    obtain ⟨us, vs', hu, h3, h4⟩ := h1
    refine ⟨us.toList ++ (xs.toList.map a.eval) ++ vs'.toList, ?_, ?_⟩
    · have := RelVL.append (RelVL.append h3 h2) h4
      simpa using this
    · simp [execOp, ho, resolve, hu, Deferred.ofValue, invoke, run_callFunc hg]
  · cases hc

/-- A call of a pure function. -/
theorem OpJ.callPure {f : Operand} {xs : Array Operand} {ts : Array TypeId} {fv : V} {vs : List V} {g : FuncId} {args : List PV} {r : PV} (ho : o.op = .call { callee := .value f, args := xs, argTypes := ts }) (hf : ev T f = some fv)
    (hxs : evs T xs.toList = some vs) (hc : callee vs fv = some (g, args.map .p)) (hg : realFn P g = true) (hp : Pure P g args r) : OpJ P N o T H (.p r) H := by
  intro R w I ρ a hi hT K QX hK
  refine ⟨about_wide, ?_⟩
  rw [semAt_plain _ _ _ (by simp [ho])]
  obtain ⟨us, h1, h2⟩ := run_callOp ho hT hf hxs hc hg
  rw [h2]
  have h1' : RelVL P w I [] (args.map .p) us := RelVL.pure.2 (RelVL.pure.1 h1)
  refine ⟨(fun h => by cases h), ?_⟩
  refine CallsIn.mono (callsIn_fr R (hp w I [] us hi.nothing h1')) ?_
  rintro e w' ⟨u, v, J, σ, H', rfl, ⟨rfl, rfl⟩, h3, h4, h5⟩
  have hσ : σ = [] := List.eq_nil_of_length_eq_zero h4.len
  subst hσ
  obtain ⟨h6, h7⟩ := Inv.frame hi h3 h4
  exact hK u w' J ρ h6 h7 h5

/-- A call that may work on own blocks: all of them are handed over. -/
theorem OpJ.callOwn {f : Operand} {xs : Array Operand} {ts : Array TypeId} {fv : V} {vs all : List V} {g : FuncId} {v : V} {H' : List Blk} (ho : o.op = .call { callee := .value f, args := xs, argTypes := ts }) (hf : ev T f = some fv)
    (hxs : evs T xs.toList = some vs) (hc : callee vs fv = some (g, all)) (hg : realFn P g = true) (hp : ACalls P g all H fun v' H'' => v' = v ∧ H'' = H') : OpJ P N o T H v H' := by
  intro R w I ρ a hi hT K QX hK
  refine ⟨about_wide, ?_⟩
  rw [semAt_plain _ _ _ (by simp [ho])]
  obtain ⟨us, h1, h2⟩ := run_callOp ho hT hf hxs hc hg
  rw [h2]
  refine ⟨(fun h => by cases h), ?_⟩
  refine CallsIn.mono (callsIn_fr R (hp w I ρ us hi h1)) ?_
  rintro e w' ⟨u, v', J, σ, H2, rfl, ⟨rfl, rfl⟩, h3, h4, h5⟩
  exact hK u w' J σ h3 h4 h5

/-! ### Results -/
theorem resV.none_ {fn : Func} (h : fn.results = #[]) : resV P N fn T H (.p (.tuple [])) :=
  fun w I ρ a hi ht => ⟨.tuple #[], by simp [results, h], ⟨#[], rfl, by simp [RelL]⟩⟩

/-- One result, in a slot or in a cell. -/
def resOne (P : Program) (T : Tm) (H : List Blk) : ResultVar → V → Prop
  | .tmp t, v => lk T t = some v
  | .cell s ty, v => ∃ p b n, lk T s = some p ∧ tyI P ty = some (b, n) ∧ aload H b n p = some v
theorem run_resOne {w : World} {I : Nat → Prop} {ρ : List Nat} {a : Array Value} {r : ResultVar} {v : V} (hi : Inv P w I ρ H) (ht : TRel P w I ρ N T a) (h : resOne P T H r v) :
    ∃ u, (match r with | .tmp t => pure (a.getD t undef) | .cell addr ty => do loadVar ty (← asAddr (a.getD addr undef)) : Sem Value).run P w = .ok u w ∧ RelV P w I ρ v u := by
  cases r with
  | tmp t => exact ⟨_, rfl, ht.at_ t v h⟩
  | cell s ty =>
    obtain ⟨p, b, n, h1, h2, h3⟩ := h
    obtain ⟨ad, u', h4, h5, h6⟩ := run_aload h2 hi (ht.at_ s p h1) h3
    exact ⟨u', by simp only [h4, asAddr, Sem.run_bind, Sem.run_pure, Result.andThen]; exact h5, h6⟩
end
end Go.AF
