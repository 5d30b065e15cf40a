/-
  Interface values and their methods. No condition; generic over any program.
-/
import Derived.Test.YtofenmailjdehaaDoorAfH
set_option linter.unusedVariables false
namespace Go.AF
section
variable {P : Program} {R : Option Nat} {N κ : Nat} {Q : Post} {T : Tm} {H H' : List Blk} {o : Oper}
/-- Is it a concrete type? -/
def conI (P : Program) (t : TypeId) : Bool :=
  match P.underlying t with
  | some (.interface _) => false
  | some _ => true
  | none => false
theorem OpJ.makeIface {t : TypeId} {x : Operand} {y : PV} (ho : o.op = .makeInterface t x) (hx : ev T x = some (.p y)) (ht : conI P t = true) : OpJ P N o T H (.p (.iface t y)) H :=
  OpJ.of_pure (by simp [ho]) fun w I ρ a hi hT => by
    have h := hT.ev hx
    unfold conI at ht
    cases hu : P.underlying t with
    | none => simp [hu] at ht
    | some d =>
      refine ⟨.iface t (a.eval x), ?_, a.eval x, rfl, h⟩
      cases d <;> simp [hu] at ht <;> simp [execOp, ho, Instr.makeInterface, run_underlying hu]
/-- A type's own method, on values. -/
def mthI (P : Program) (t : TypeId) (name : String) : Option FuncId :=
  match P.info? t with
  | some i => match i.methods.find? (·.name == name) with
    | some m => if m.path.isEmpty then (match m.func, P.underlying t with
      | some (_, false), some (.pointer _) => none
      | some (f, false), some _ => some f
      | _, _ => none) else none
    | none => none
  | none => none
/-- The name of a type's method, by its place. -/
def mName (P : Program) (t : TypeId) (k : Nat) : String :=
  match P.info? t with
  | some i => match i.methods[k]? with
    | some m => m.name
    | none => default
  | none => default
theorem run_method {t : TypeId} {name : String} {f : FuncId} (h : mthI P t name = some f) (n : Nat) (v : Value) (w : World) : (method (n + 1) t v name).run P w = .ok (f, v) w := by
  unfold mthI at h
  cases hi : P.info? t with
  | none => simp [hi] at h
  | some i =>
    simp only [hi] at h
    cases hm : i.methods.find? (·.name == name) with
    | none => simp [hm] at h
    | some m =>
      simp only [hm] at h
      split at h
      · rename_i hp
        have hp' : m.path = #[] := by simpa using hp
        cases hf : m.func with
        | none => simp [hf] at h
        | some q =>
          obtain ⟨g, b⟩ := q
          cases b with
          | true => simp [hf] at h
          | false =>
            cases hu : P.underlying t with
            | none => simp [hf, hu] at h
            | some d =>
              cases d <;> simp [hf, hu] at h <;> subst h <;> simp [method, run_typeInfo w hi, hm, hp', follow, hf, receiverAt, run_underlying hu, Place.get]
      · cases h
/-- What a method of an interface value answers. -/
def FIface (P : Program) (name : String) (x : PV) (args : List PV) (r : PV) : Prop := ∃ t y g, x = .iface t y ∧ mthI P t name = some g ∧ realFn P g = true ∧ Pure P g (y :: args) r

/-- A call of an interface value's method. -/
theorem OpJ.invoke {name : String} {x r : PV} {args : List PV} (hF : FIface P name x args r) {rc : Operand} {xs : Array Operand} {ts : Array TypeId} (ho : o.op = .call { callee := .invoke rc name, args := xs, argTypes := ts }) (hx : ev T rc = some (.p x)) (hxs : evs T xs.toList = some (args.map .p)) : OpJ P N o T H (.p r) H := by
  obtain ⟨t, y, g, rfl, hm, hg, hp⟩ := hF
  intro R w I ρ a hi hT K QX hK
  refine ⟨about_wide, ?_⟩
  rw [semAt_plain _ _ _ (by simp [ho])]
  obtain ⟨z, hz, hr⟩ := hT.ev hx
  have h2 := RelVL.pure.1 (hT.evs hxs)
  have hrun : (execOp a.eval o).run P w = .ok (.enter g (z :: xs.toList.map a.eval).toArray) w := by
    have e0 : ∀ us : Array Value, (#[Value.iface t z] ++ us)[0]? = some (.iface t z) := fun us => by
      rw [Array.getElem?_append_left (by simp)]; rfl
    obtain ⟨n, hn⟩ : ∃ n, P.types.size + Made.depth = n + 1 := ⟨P.types.size + (Made.depth - 1), by have : 0 < Made.depth := by decide
                                                                                                    omega⟩
    simp [execOp, ho, resolve, Go.invoke, callMethod, hz, e0, hn, run_method hm, run_callFunc hg]
    exact List.take_of_length_le (by simp)
  rw [hrun]
  have h1' : RelVL P w I [] ((y :: args).map .p) (z :: xs.toList.map a.eval) := RelVL.pure.2 ⟨z, _, rfl, hr, h2⟩
  refine ⟨(fun h => by cases h), ?_⟩
  refine CallsIn.mono (callsIn_fr R (hp w I [] _ hi.nothing h1')) ?_
  rintro e w' ⟨u, v, J, σ, H', rfl, ⟨rfl, rfl⟩, h3, h4, h5⟩
  have hσ : σ = [] := List.eq_nil_of_length_eq_zero h4.len
  subst hσ
  obtain ⟨h6, h7⟩ := Inv.frame hi h3 h4
  exact hK u w' J ρ h6 h7 h5
end
end Go.AF
