/-
  An own slice that grew in a cell of another own block becomes immutable there. No condition; generic over any program.
-/
import Derived.Test.YtofenmailjdehaaDoorAfL
set_option linter.unusedVariables false
namespace Go.AF
theorem frzL_app (i : Nat) (xs : List PV) : ∀ a b : List V, frzL i xs (a ++ b) = frzL i xs a ++ frzL i xs b
  | [], b => rfl
  | x :: a, b => by simp only [List.cons_append, frzL, frzL_app i xs a b]
section
variable {P : Program} {N κ : Nat} {T : Tm} {H : List Blk}
/-- Own row i becomes immutable; own cells j refer to it. -/
theorem To.frzC (i j : Nat) {xs : List PV} {vs cs : List V} {e : TypeId} (hij : i ≠ j) (hc : blkCells H[i]? = some vs) (hp : allP vs = some xs) (hH : H[j]? = some (.cells cs e)) : To P κ N T H (frzT i xs T) ((H.set i .dead).set j (.cells (frzL i xs cs) e)) := by
  intro w I ρ tmps hi ht
  rw [allP_some hp] at hc
  obtain ⟨b, arr, e', hρ, hw, hl, hr⟩ := own_cells hi hc
  obtain ⟨bj, hbj⟩ : ∃ b, ρ[j]? = some b := by
    have h1 : j < H.length := (List.getElem?_eq_some_iff.1 hH).1
    rw [← hi.len] at h1
    exact ⟨ρ[j], List.getElem?_eq_getElem h1⟩
  have hH2 : ∃ blk, H[i]? = some blk ∧ blk.live = true := by
    unfold blkCells at hc
    split at hc
    · rename_i h; exact ⟨_, h, rfl⟩
    · rename_i h; exact ⟨_, h, rfl⟩
    · cases hc
  obtain ⟨blk, hHi, hlive⟩ := hH2
  have hE := Ext.freeze hi hρ hHi hlive
  have hF := Inv.freeze hi hρ hHi hlive
  have hx : RelAt w (fun k => I k ∨ k = b) xs b 0 := by
    have h2 := RelVL.pure.1 (RelVL.ext hE hr)
    refine RelAt.of_list xs _ 0 h2 fun j u hj => ?_
    rw [List.getElem?_take] at hj
    split at hj
    · simp only [World.cell?, hw]
      simpa using hj
    · cases hj
  have hHj : (H.set i Blk.dead)[j]? = some (.cells cs e) := by rw [List.getElem?_set_ne hij]; exact hH
  refine ⟨_, ρ, hE.w, ?_, ⟨ht.size, fun s v hv => ?_⟩, fun L hL _ => hL⟩
  · refine hF.write hbj hHj rfl (Ext.refl _ _ _) rfl (fun _ _ => rfl) ?_
    obtain ⟨arr2, h1, h3⟩ := hF.rel j bj _ hbj hHj
    exact ⟨arr2, h1, frzL_rel hρ (.inr rfl) hx cs _ h3⟩
  · rw [lk_frzT, Option.map_eq_some_iff] at hv
    obtain ⟨v0, h1, rfl⟩ := hv
    exact frzV_rel hρ (.inr rfl) hx v0 _ ((ht.at_ s v0 h1).ext hE)
theorem map_wkV : ∀ l : List PV, (l.map V.p).map wkV = (wkPL l).map V.p
  | [] => rfl
  | x :: l => by simp only [List.map_cons, wkPL, map_wkV l]; rfl
/-- A slice that grew in a cell of own block j is from now on content. -/
theorem To.accC (i j : Nat) {xs : List PV} {n : Nat} {a b : List PV} {e eb : TypeId} (T2 : Tm) (hij : i ≠ j) (hi : H[i]? = some (accB (xs.map .p) e n)) (hj : H[j]? = some (.cells (a.map .p ++ accV i n :: b.map .p) eb)) (h0 : n = 0 → xs = []) (ha : wkPL a = a) (hb : wkPL b = b)
    (h1 : Sub T2 (frzT i xs T)) (h2 : Sub T2 T) : To P κ N T H T2 ((H.set i .dead).set j (.cells (a.map .p ++ .p (.is xs n) :: b.map .p) eb)) := by
  cases n with
  | zero =>
    have hx := h0 rfl
    subst hx
    have e1 : H.set i .dead = H := by
      apply List.ext_getElem?
      intro k
      rw [List.getElem?_set]
      split
      · rename_i hik
        subst hik
        split
        · exact hi.symm
        · rename_i h; rw [List.getElem?_eq_none (by omega)]
      · rfl
    rw [e1]
    have h3 := To.wkB (P := P) (N := N) (κ := κ) (T := T) j hj
    have e2 : (a.map V.p ++ accV i 0 :: b.map V.p).map wkV = a.map .p ++ .p (.is [] 0) :: b.map .p := by
      rw [List.map_append, List.map_cons, map_wkV, map_wkV, ha, hb]
      rfl
    rw [e2] at h3
    exact h3.trans (To.sub h2)
  | succ n =>
    have h3 := To.frzC (P := P) (N := N) (κ := κ) (T := T) i j hij (xs := xs) (vs := xs.map .p) (by rw [hi]; rfl) (allP_map xs) hj
    have e2 : frzL i xs (a.map V.p ++ accV i (n + 1) :: b.map V.p) = a.map .p ++ .p (.is xs (n + 1)) :: b.map .p := by
      rw [frzL_app, frzL_pure]
      simp only [frzL, frzL_pure, accV, frzV, if_true]
    rw [e2] at h3
    exact h3.trans (To.sub h1)
end
end Go.AF
