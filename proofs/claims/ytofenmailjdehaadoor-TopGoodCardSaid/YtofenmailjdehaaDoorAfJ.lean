/-
  Elements by a total function of their place; calls that leave one of many states behind. No condition; generic over any program.
-/
import Derived.Test.YtofenmailjdehaaDoorAfI
set_option linter.unusedVariables false
namespace Go.AF
section
variable {P : Program} {R : Option Nat} {N κ : Nat} {Q : Post} {T : Tm} {H H' : List Blk} {o : Oper}
theorem OpJ.indexG {α : Type} {g : Nat → α} {x y : Operand} {t : TypeId} {kd : IntKind} {sz len k : Nat} {xs : List α} {f : α → List PV} (hg : ∀ k (h : k < xs.length), xs[k] = g k) (ho : o.op = .indexAddr t x y) (hx : ev T x = some (.p (.is (xs.flatMap f) len))) (hy : ev T y = some (.p (.int kd (k : Int)))) (ht : isSl P t = true)
    (he : elI P t = some sz) (hl : len = xs.length) (hf : ∀ x, (f x).length = sz) (h0 : 0 < sz) (hk : k < xs.length) : OpJ P N o T H (.p (.ip (f (g k)) 0)) H := by
  have h := OpJ.indexEl (P := P) (N := N) (H := H) ho hx hy ht he hl hf h0 hk
  rwa [hg k hk] at h
theorem OpJ.buildR {t : TypeId} {parts : Array (Nat × Operand)} {z : List PV} {ps : List (Nat × Nat)} {vs : List (Nat × V)} {r : List V} {v : V} (ho : o.op = .build t parts) (hb : bldI P t = some (z, ps)) (hv : evParts T parts.toList = some vs) (hr : abuild ps (z.map .p) vs = some r) (hw : aggOf r = v) : OpJ P N o T H v H := by
  subst hw; exact OpJ.build ho hb hv hr
theorem OpJ.isR {xs ys : List PV} {n : Nat} (h : OpJ P N o T H (.p (.is ys n)) H') (e : ys = xs) : OpJ P N o T H (.p (.is xs n)) H' := e ▸ h
/-- A call that may work on own blocks, and leaves one of many states. -/
theorem AList.callX (d : Nat) {ops : Array Oper} {rest : List Oper} {f : Operand} {xs : Array Operand} {ts : Array TypeId} {fv : V} {vs all : List V} {g : FuncId} {Qr : V → List Blk → Prop} (hp : ACalls P g all H Qr) (ho : o.op = .call { callee := .value f, args := xs, argTypes := ts }) (hd : o.dst = some d) (hN : dstOk N (some d) = true) (hgd : o.guard = none) (hf : ev T f = some fv)
    (hxs : evs T xs.toList = some vs) (hc : callee vs fv = some (g, all)) (hg : realFn P g = true) (next : ∀ v H', Qr v H' → AList P R N κ ops rest Q ((d, v) :: T) H') : AList P R N κ ops (o :: rest) Q T H := by
  intro QX B w I ρ a hi ht hm hq
  refine wpListIn_plain hgd fun K hK => ?_
  refine ⟨about_wide, ?_⟩
  rw [semAt_plain _ _ _ (by simp [ho])]
  obtain ⟨us, h1, h2⟩ := run_callOp ho ht hf hxs hc hg
  rw [h2]
  refine ⟨(fun h => by cases h), ?_⟩
  refine CallsIn.mono (callsIn_fr R (hp w I ρ us hi h1)) ?_
  rintro e w' ⟨u, v', J, σ, H2, rfl, hQ, h3, h4, h5⟩
  refine hK _ _ ?_
  refine next v' H2 hQ QX B w' J σ (a.put o.dst u) h4 (by rw [hd]; exact (ht.ext h3).put hN h5) ((hm.ext h3).put) fun e a2 w2 q => hq e a2 w2 (QC.ext h3.w q)
/-- A call of a function value that may work on own blocks. -/
def FX (P : Program) (f : V) (args : List V) (H : List Blk) (Qr : V → List Blk → Prop) : Prop := ∃ g all, callee args f = some (g, all) ∧ realFn P g = true ∧ ACalls P g all H Qr
theorem AList.callFX (d : Nat) {ops : Array Oper} {rest : List Oper} {f : Operand} {xs : Array Operand} {ts : Array TypeId} {fv : V} {vs : List V} {Qr : V → List Blk → Prop} (hp : FX P fv vs H Qr) (ho : o.op = .call { callee := .value f, args := xs, argTypes := ts }) (hd : o.dst = some d) (hN : dstOk N (some d) = true) (hgd : o.guard = none) (hf : ev T f = some fv)
    (hxs : evs T xs.toList = some vs) (next : ∀ v H', Qr v H' → AList P R N κ ops rest Q ((d, v) :: T) H') : AList P R N κ ops (o :: rest) Q T H := by
  obtain ⟨g, all, h1, h2, h3⟩ := hp
  exact AList.callX d h3 ho hd hN hgd hf hxs h1 h2 next
theorem FinO.many {fn : Func} {r1 r2 : ResultVar} {rs : List ResultVar} {vs : List V} {xs : List PV} {Qr : V → List Blk → Prop} (h : fn.results = (r1 :: r2 :: rs).toArray) (hr : ress P T H (r1 :: r2 :: rs) vs) (hv : vs = xs.map .p) (hq : Qr (.p (.tuple xs)) H) : FinO P N fn Qr .ret T H := by
  refine ⟨.inr rfl, .p (.tuple xs), ?_, hq⟩
  have := resV.many (N := N) h hr
  have e : tupOf vs = .p (.tuple xs) := by
    subst hv
    simp [tupOf, allP_map]
  rwa [e] at this
theorem FinO.one {fn : Func} {r : ResultVar} {v : V} {Qr : V → List Blk → Prop} (h : fn.results = #[r]) (hr : resOne P T H r v) (hq : Qr v H) : FinO P N fn Qr .ret T H :=
  ⟨.inr rfl, v, resV.one h hr, hq⟩
end
end Go.AF
