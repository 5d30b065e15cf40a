/-
  Empty slices inside of values, by what is in them. No condition; generic over any program.
-/
import Derived.Test.YtofenmailjdehaaDoorAfJ
set_option linter.unusedVariables false
namespace Go.AF
mutual
/-- A value, its empty slices by what is in them. -/
def wkP : PV → PV
  | .nilSlice => .is [] 0
  | .agg cs => .agg (wkPL cs)
  | .tuple cs => .tuple (wkPL cs)
  | .is cs n => .is (wkPL cs) n
  | .ip cs off => .ip (wkPL cs) off
  | x => x
def wkPL : List PV → List PV
  | [] => []
  | x :: xs => wkP x :: wkPL xs
end
theorem wkPL_nil : ∀ {xs : List PV}, wkPL xs = [] → xs = []
  | [], _ => rfl
  | _ :: _, h => by simp [wkPL] at h
mutual
theorem Rel.wk {w : World} {I : Nat → Prop} : ∀ (x : PV) (u : Value), Rel w I x u → Rel w I (wkP x) u
  | .nilSlice, u, h => .inl ⟨⟨none, 0, h⟩, rfl⟩
  | .agg cs, u, h => by
    obtain ⟨us, hu, h1⟩ := h
    exact ⟨us, hu, RelL.wk cs _ h1⟩
  | .tuple cs, u, h => by
    obtain ⟨us, hu, h1⟩ := h
    exact ⟨us, hu, RelL.wk cs _ h1⟩
  | .is cs n, u, h => by
    rcases h with h | ⟨b, o, cap, hb, hl, hu, hc⟩
    · exact .inl h
    · exact .inr ⟨b, o, cap, fun hn => hb (fun e => hn (by subst e; rfl)), hl, hu, RelAt.wk cs b o hc⟩
  | .ip cs off, u, h => by
    obtain ⟨b, o, hb, hu, hc⟩ := h
    exact ⟨b, o, hb, hu, RelAt.wk cs b o hc⟩
  | .bool _, _, h => h
  | .int _ _, _, h => h
  | .str _, _, h => h
  | .nilPtr, _, h => h
  | .nilMap, _, h => h
  | .nilFunc, _, h => h
  | .nilIface, _, h => h
  | .im _ _, _, h => h
  | .func _ _ _, _, h => h
  | .iface _ _, _, h => h
theorem RelL.wk {w : World} {I : Nat → Prop} : ∀ (xs : List PV) (us : List Value), RelL w I xs us → RelL w I (wkPL xs) us
  | [], us, h => h
  | c :: cs, us, h => by
    obtain ⟨u, us', hu, h1, h2⟩ := h
    exact ⟨u, us', hu, Rel.wk c u h1, RelL.wk cs us' h2⟩
theorem RelAt.wk {w : World} {I : Nat → Prop} : ∀ (xs : List PV) (b o : Nat), RelAt w I xs b o → RelAt w I (wkPL xs) b o
  | [], _, _, h => h
  | c :: cs, b, o, h => by
    obtain ⟨⟨u, hu, h1⟩, h2⟩ := h
    exact ⟨⟨u, hu, Rel.wk c u h1⟩, RelAt.wk cs b (o + 1) h2⟩
end
def wkV : V → V
  | .p x => .p (wkP x)
  | v => v
theorem RelV.wk {P : Program} {w : World} {I : Nat → Prop} {ρ : List Nat} (v : V) (u : Value) (h : RelV P w I ρ v u) : RelV P w I ρ (wkV v) u := by
  cases v <;> first | exact Rel.wk _ _ h | exact h
theorem RelVL.wk {P : Program} {w : World} {I : Nat → Prop} {ρ : List Nat} : ∀ (vs : List V) (us : List Value), RelVL P w I ρ vs us → RelVL P w I ρ (vs.map wkV) us
  | [], us, h => h
  | c :: cs, us, h => by
    obtain ⟨u, us', hu, h1, h2⟩ := h
    exact ⟨u, us', hu, RelV.wk c u h1, RelVL.wk cs us' h2⟩
section
variable {P : Program} {N κ : Nat} {T : Tm} {H : List Blk}
theorem To.wkS (s : Nat) {x : PV} (hs : lk T s = some (.p x)) : To P κ N T H ((s, .p (wkP x)) :: dropT [s] T) H := fun w I ρ tmps hi ht => by
  refine ⟨I, ρ, ExtW.refl _ _ _, hi, ⟨ht.size, fun a v hx => ?_⟩, fun L hL _ => hL⟩
  simp only [lk] at hx
  cases hb : Nat.beq s a with
  | true =>
    rw [hb] at hx
    have := Nat.eq_of_beq_eq_true hb
    subst this
    simp at hx
    subst hx
    exact Rel.wk x _ (ht.at_ s _ hs)
  | false =>
    rw [hb] at hx
    exact ht.at_ a v (lk_dropT [s] T a v hx)
theorem To.wkB (i : Nat) {cs : List V} {e : TypeId} (hH : H[i]? = some (.cells cs e)) : To P κ N T H T (H.set i (.cells (cs.map wkV) e)) := fun w I ρ tmps hi ht => by
  obtain ⟨b, hb⟩ : ∃ b, ρ[i]? = some b := by
    have h1 : i < H.length := (List.getElem?_eq_some_iff.1 hH).1
    rw [← hi.len] at h1
    exact ⟨ρ[i], List.getElem?_eq_getElem h1⟩
  refine ⟨I, ρ, ExtW.refl _ _ _, ?_, ht, fun L hL _ => hL⟩
  refine hi.write hb hH rfl (Ext.refl _ _ _) rfl (fun _ _ => rfl) ?_
  obtain ⟨arr, h1, h2⟩ := hi.rel i b _ hb hH
  exact ⟨arr, h1, RelVL.wk cs _ h2⟩
end
end Go.AF
