/-
  New slices that become content at once; a map that is frozen where a cell refers to it. No condition; generic over any program.
-/
import Derived.Test.YtofenmailjdehaaDoorAfU
set_option linter.unusedVariables false
set_option linter.unusedSimpArgs false
namespace Go.AF
section
variable {P : Program} {R : Option Nat} {N κ : Nat} {Q : Post} {T : Tm} {H H2 : List Blk} {o : Oper}
/-- An operation that lays a row: the row becomes content, its place stays empty. -/
theorem OpJ.immD {n : Nat} {e : TypeId} {xs : List PV} (h : OpJ P N o T H (.row H.length n) (H ++ [.row (xs.map .p) e])) : OpJ P N o T H (.p (.is xs n)) (H ++ [.dead]) :=
  fun R w I ρ a hi ht KK QX hK => h R w I ρ a hi ht KK QX fun u w' I2 ρ2 he hi2 hu => by
    have hc : blkCells (H ++ [Blk.row (xs.map .p) e])[H.length]? = some (xs.map .p) := by simp [blkCells]
    have ht1 : TRel P w' I2 ρ2 1 [(0, .row H.length n)] #[u] := ⟨rfl, fun s v hv => by
      cases s with
      | zero =>
        have : V.row H.length n = v := Option.some.inj hv
        subst this
        exact hu
      | succ s => cases hv⟩
    obtain ⟨I', h1, h2, h3⟩ := frz_step hi2 hc ht1
    have h4 : RelV P w' I' ρ2 (.p (.is xs n)) u := by
      have := h3.at_ 0 (frzV H.length xs (.row H.length n)) rfl
      have e2 : frzV H.length xs (.row H.length n) = .p (.is xs n) := by simp [frzV]
      rw [e2] at this
      exact this
    rw [set_last] at h2
    exact hK u w' I' ρ2 (he.trans h1) h2 h4
section
variable {K α : Type} {enc : K → PV} {gp : α → PV}
/-- Own map i becomes immutable, and what own block j has of it too. -/
theorem To.frmC (i j : Nat) {ms : List (K × α)} {cs : List V} {e : TypeId} (hij : i ≠ j) (hH : H[i]? = some (mapB enc (fun a => .p (gp a)) ms)) (hHj0 : H[j]? = some (.cells cs e)) : To P κ N T H (frmT i (mapP enc gp ms) T) ((H.set i .dead).set j (.cells (frmL i (mapP enc gp ms) cs) e)) := fun w I ρ tmps hi ht => by
  have hlt : i < ρ.length := by rw [hi.len]; exact (List.getElem?_eq_some_iff.1 hH).1
  have hρ : ρ[i]? = some ρ[i] := List.getElem?_eq_getElem hlt
  have hltj : j < ρ.length := by rw [hi.len]; exact (List.getElem?_eq_some_iff.1 hHj0).1
  have hρj : ρ[j]? = some ρ[j] := List.getElem?_eq_getElem hltj
  obtain ⟨es, clock, h1, h2, h3, h4⟩ := hi.rel i _ _ hρ hH
  have hE := Ext.freeze hi hρ hH rfl
  have hF := Inv.freeze hi hρ hH rfl
  have h2' : RelVL P w I ρ ((ms.map fun m => enc m.1).map .p) (es.toList.map (·.key)) := by simpa [Function.comp_def] using h2
  have h3' : RelVL P w I ρ ((ms.map fun m => gp m.2).map .p) (es.toList.map (·.val)) := by simpa [Function.comp_def] using h3
  have hx : Rel w (fun k => I k ∨ k = ρ[i]) (mapP enc gp ms) (.map (some ρ[i])) := ⟨ρ[i], es, clock, .inr rfl, rfl, h1, RelL.mono (fun _ h => hE.w.imm _ h) hE.w.immKeep _ _ (RelVL.pure.1 h2'), RelL.mono (fun _ h => hE.w.imm _ h) hE.w.immKeep _ _ (RelVL.pure.1 h3'), h4⟩
  have hHj : (H.set i Blk.dead)[j]? = some (.cells cs e) := by rw [List.getElem?_set_ne hij]; exact hHj0
  refine ⟨_, ρ, hE.w, ?_, ⟨ht.size, fun s v hv => ?_⟩, fun _ h _ => h⟩
  · refine hF.write hρj hHj rfl (Ext.refl _ _ _) rfl (fun _ _ => rfl) ?_
    obtain ⟨arr2, k1, k3⟩ := hF.rel j ρ[j] _ hρj hHj
    exact ⟨arr2, k1, frmL_rel hρ hx cs _ k3⟩
  · rw [lk_frmT, Option.map_eq_some_iff] at hv
    obtain ⟨v0, h5, rfl⟩ := hv
    exact frmV_rel hρ hx v0 _ ((ht.at_ s v0 h5).ext hE)
end
end
end Go.AF
