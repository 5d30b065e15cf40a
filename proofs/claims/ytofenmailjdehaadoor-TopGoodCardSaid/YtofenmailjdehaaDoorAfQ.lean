/-
  A cell of a package variable that the program lays. No condition; generic over any program.
-/
import Derived.Test.YtofenmailjdehaaDoorAfP
set_option linter.unusedVariables false
namespace Go.AF
section
variable {P : Program} {N : Nat} {T : Tm} {H : List Blk} {o : Oper}
theorem OpJ.indexGlob {g : Nat} {tbl : List PV} {y : Operand} {t : TypeId} {kd : IntKind} {sz len : Nat} {n : Int} (hg : (g, tbl) ∈ laidG P) (ho : o.op = .indexAddr t (.global g) y) (hy : ev T y = some (.p (.int kd n))) (ht : arrI P t = some len) (he : elI P t = some sz)
    (h0 : 0 ≤ n) (hl : n < len) : OpJ P N o T H (.p (.ip tbl (n.toNat * sz))) H :=
  OpJ.of_pure (by simp [ho]) fun w I ρ a hi hT => by
    have hn := ev_int hT hy
    obtain ⟨k1, k2⟩ := hi.gl _ hg
    have hr0 : RelV P w I ρ (.p (.ip tbl 0)) (a.eval (.global g)) := ⟨g, 0, k1, rfl, k2⟩
    obtain ⟨ad, hu, hr⟩ := shift_rel (v := .p (.ip tbl (n.toNat * sz))) (n := n.toNat * sz) hr0 (show shift (n.toNat * sz) (.p (.ip tbl 0)) = some (.p (.ip tbl (n.toNat * sz))) by simp [shift])
    cases hd : P.underlying t with
    | none => simp [arrI, hd] at ht
    | some d =>
      cases d <;> simp [arrI, hd] at ht
      rename_i m e
      subst ht
      simp only [elI, hd, Option.map_eq_some_iff] at he
      obtain ⟨⟨b, m'⟩, htm, rfl⟩ := he
      refine ⟨_, ?_, hr⟩
      simp [execOp, ho, Instr.indexAt, hn, run_asIntOf, hu, Instr.sureAddr, run_underlying hd, h0, hl, run_sizeOf' htm]
/-- A lookup in a map that is content, by what is there or the zero value. -/
theorem OpJ.lookupImD {K α : Type} [DecidableEq K] {enc : K → PV} {gp : α → PV} {d : TypeDesc} (hk : KeyOk enc d) {x y : Operand} {t : TypeId} {z : PV} {ms : List (K × α)} {n : K} (a0 : α) (ho : o.op = .lookup t x y false) (hx : ev T x = some (.p (mapP enc gp ms))) (hy : ev T y = some (.p (enc n)))
    (ht : mapI P t = some (d, z)) (hz : z = gp a0) : OpJ P N o T H (.p (gp ((mget n ms).getD a0))) H := by
  have h := OpJ.lookupIm (P := P) (N := N) (H := H) hk (gp := gp) ho hx hy ht
  have e : lkup z false ((mget n ms).map fun a => V.p (gp a)) = .p (gp ((mget n ms).getD a0)) := by
    unfold lkup
    cases mget n ms with
    | none => simp [hz]
    | some a => rfl
  rw [e] at h
  exact h
end
end Go.AF
