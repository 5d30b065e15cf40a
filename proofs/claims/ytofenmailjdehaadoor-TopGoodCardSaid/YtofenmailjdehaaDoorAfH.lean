/-
  Calls that look at own blocks, whose result is partly forgotten. No condition; generic over any program.
-/
import Derived.Test.YtofenmailjdehaaDoorAfG
set_option linter.unusedVariables false
namespace Go.AF
section
variable {P : Program} {R : Option Nat} {N κ : Nat} {Q : Post} {T : Tm} {H H' : List Blk} {o : Oper}
/-- A part of a result: kept, if there is no reference in it. -/
def scV (x : PV) : V := bif scP x then .p x else .top
theorem scV_rel {w w' : World} {I I' : Nat → Prop} {ρ : List Nat} {x : PV} {u : Value} (h : Rel w I x u) : RelV P w' I' ρ (scV x) u := by
  unfold scV
  cases hs : scP x with
  | true => exact Rel.sc x u hs h
  | false => trivial
theorem scV_rels {w w' : World} {I I' : Nat → Prop} {ρ : List Nat} : ∀ (xs : List PV) (us : List Value), RelL w I xs us → RelVL P w' I' ρ (xs.map scV) us
  | [], us, h => h
  | x :: xs, us, h => by
    obtain ⟨u, us', hu, h1, h2⟩ := h
    exact ⟨u, us', hu, scV_rel h1, scV_rels xs us' h2⟩
theorem OpJ.callBt (n : Nat) {g : FuncId} {args rs : List PV} (hp : Pure P g args (.tuple rs)) {f : Operand} {xs : Array Operand} {ts : Array TypeId} {fv : V} {vs all : List V} (ho : o.op = .call { callee := .value f, args := xs, argTypes := ts }) (hf : ev T f = some fv)
    (hxs : evs T xs.toList = some vs) (hc : callee vs fv = some (g, all)) (hb : mapO (brwV H n) all = some args) (hg : realFn P g = true) : OpJ P N o T H (.tuple (rs.map scV)) H := by
  intro R w I ρ a hi hT K QX hK
  refine ⟨about_wide, ?_⟩
  rw [semAt_plain _ _ _ (by simp [ho])]
  obtain ⟨us, h1, h2⟩ := run_callOp ho hT hf hxs hc hg
  rw [h2]
  have h1' : RelVL P w (fun b => b < w.heap.size) [] (args.map .p) us := RelVL.pure.2 (mapO_rel (brwV_rel hi n) all args us hb h1)
  have hi2 : Inv P w (fun b => b < w.heap.size) [] [] := ⟨rfl, (fun _ _ _ h => by simp at h), fun _ h => h, (fun _ _ _ h => by simp at h), (fun _ _ _ _ _ h => by simp at h), (fun _ _ _ h => by simp at h), hi.gl.mono hi.ib (fun _ _ => rfl)⟩
  refine ⟨(fun h => by cases h), ?_⟩
  refine CallsIn.mono (callsIn_fr R (hp w _ [] us hi2 h1')) ?_
  rintro e w' ⟨u, v, J, σ, H', rfl, ⟨rfl, rfl⟩, h3, h4, h5⟩
  have he := ext_back hi h3
  have hi3 : Inv P w' I [] [] := ⟨rfl, (fun _ _ _ h => by simp at h), fun b h => Nat.lt_of_lt_of_le (hi.ib b h) h3.w.size, (fun _ _ _ h => by simp at h), (fun _ _ _ _ _ h => by simp at h), (fun _ _ _ h => by simp at h), hi.gl.mono (fun _ h => h) he.w.immKeep⟩
  obtain ⟨h6, h7⟩ := Inv.frame hi he hi3
  obtain ⟨us', hu, hr⟩ := h5
  exact hK u w' I ρ h6 h7 ⟨us', hu, scV_rels rs _ hr⟩
theorem allP_cat3 (A B C : List PV) : allP ((A.map .p ++ B.map .p) ++ C.map .p) = some ((A ++ B) ++ C) := by
  rw [← List.map_append, ← List.map_append]; exact allP_map _
end
end Go.AF
