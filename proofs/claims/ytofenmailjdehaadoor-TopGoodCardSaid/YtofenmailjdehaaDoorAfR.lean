/-
  What a row says of a listed package variable, an array of integers, as the walks want it. No condition; generic over any program.
-/
import Derived.Test.YtofenmailjdehaaDoorAfQ
import Derived.MakeChecks
import Derived.LaidMore
import Derived.OpenShut
import Derived.FnData
set_option linter.unusedVariables false
namespace Go.AF
open Go
theorem relAt_ints {w : World} {I : Nat → Prop} (k : IntKind) (b : Nat) : ∀ (ns : List Int) (o : Nat), (∀ i n, ns[i]? = some n → w.cell? ⟨b, o + i, none⟩ = some (.int k n)) → RelAt w I (ns.map (PV.int k)) b o
  | [], o, _ => trivial
  | n :: ns, o, h => ⟨⟨.int k n, h 0 n rfl, rfl⟩, relAt_ints k b ns (o + 1) fun i m hm => by
    have := h (i + 1) m (by simpa using hm)
    rwa [show o + 1 + i = o + (i + 1) by omega]⟩
theorem gok_ints {P : Program} {W : World} {nm : String} {g t e n : Nat} {k : IntKind} {ns : List Int} {d : DataW Unit} (hd : d = .agg (ns.map fun n => .lit (.int k n))) (hG : laidG P = [(g, ns.map (PV.int k))]) (hg : P.globalNamed nm = some g) (ht : (P.globals[g]?).map (·.type) = some t)
    (hu : P.underlying t = some (.array n e)) (hue : P.underlying e = some (.int k)) (hc : P.cellsOf e = 1) (hn : ns.length = n) (h0 : 0 < n) (hp : ([(nm, d)].all fun x => x.2.handleName?.isNone) = true) (h : laidMetH P [(nm, d)] W) : GOk P W fun b => b < W.heap.size := by
  rw [MakeChecks.laidMetH_plain _ _ _ hp] at h
  obtain ⟨ps, ⟨g0, t0, cs0, f0, p0, q0, hg0, ht0, hv0, hd0, _, _⟩, _, _⟩ := h
  obtain rfl := Option.some.inj (hg.symm.trans hg0)
  obtain rfl := Option.some.inj (ht.symm.trans ht0)
  obtain ⟨xs, m1, rfl, hx1, hlen, hxn, hel⟩ := DataW.trod_array hu hd0
  simp only [Prod.mk.injEq] at hx1
  have hx2 := hx1.1
  rw [hd] at hx2
  have hx3 : (ns.map fun n => DataW.lit (.int k n)) = xs.map (·.1) := by injection hx2
  have key : ∀ i m, ns[i]? = some m → W.cell? ⟨g, 0 + i, none⟩ = some (.int k m) := fun i m hm => by
    have hi : i < n := by rw [← hn]; exact (List.getElem?_eq_some_iff.1 hm).1
    have h1 := hel i hi
    obtain ⟨y, hy⟩ : ∃ y, xs[i]? = some y := ⟨xs[i]'(by rw [hxn]; exact hi), List.getElem?_eq_getElem _⟩
    rw [hy, hc, Nat.mul_one] at h1
    obtain ⟨r, e1, e2, _⟩ := DataW.trod_int hue h1
    have e3 : (xs.map (·.1))[i]? = some y.1 := by rw [List.getElem?_map, hy]; rfl
    rw [← hx3, List.getElem?_map, hm] at e3
    simp only [Option.map_some, Option.some.injEq] at e3
    rw [e2] at e3
    have e4 : m = r := by simpa using e3
    subst e4
    rw [Nat.zero_add, World.var?_cell hg hv0 i]
    have e5 : (cs0.toList.drop i)[0]? = some (.int k m) := by
      have : ((cs0.toList.drop i).take 1)[0]? = some (.int k m) := by rw [e1]; rfl
      rwa [List.getElem?_take_of_lt (by omega)] at this
    rw [List.getElem?_drop, Nat.add_zero] at e5
    simpa using e5
  intro x hx
  rw [hG] at hx
  simp only [List.mem_singleton] at hx
  subst hx
  refine ⟨?_, relAt_ints k g ns 0 key⟩
  have hz := key 0 (ns[0]'(by omega)) (List.getElem?_eq_getElem _)
  unfold World.cell? at hz
  show g < W.heap.size
  rcases Nat.lt_or_ge g W.heap.size with h | h
  · exact h
  · exfalso
    rw [Array.getElem?_eq_none h] at hz
    cases hz
end Go.AF
