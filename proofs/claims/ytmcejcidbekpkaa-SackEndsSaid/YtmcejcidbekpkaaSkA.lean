/-
  The document's examples, by the kernel. No program in sight but for the contracts.
-/
import Derived.Test.YtmcejcidbekpkaaSk15
import Derived.Test.YtmcejcidbekpkaaSk17
set_option linter.unusedVariables false
set_option maxRecDepth 100000
namespace Go.Proofs.Ytmcejcidbekpkaa
open Go.AF
def sampL : List Sk := [⟨⟨10, 20⟩, ⟨900, 950⟩, ⟨0, 0⟩⟩, ⟨⟨100, 150⟩, ⟨0, 0⟩, ⟨100, 120⟩⟩]
def sampB : List Tk := [⟨0, ⟨600, 600⟩⟩, ⟨1, ⟨500, 510⟩⟩]
theorem aw1 : rWeighR sampL sampB = [.agg [.int .i64 56, .int .i64 89, .int .i64 529, .int .i64 565, .int .i64 42, .int .i64 56, .int .i64 403, .int .i64 473, .int .i64 962, .int .i64 1008], .int .i64 0] := by kernel_rfl
theorem aw2 : shareR sampL sampB = [.agg [.int .i64 528, .int .i64 583], .int .i64 0] := by kernel_rfl
theorem aw3 : waterR sampL sampB ⟨300, 400⟩ = [.agg [.int .i64 395, .int .i64 588], .int .i64 0] := by kernel_rfl
theorem aw4 : mixR sampL 0 1 1000 ⟨500, 600⟩ = [.agg [.int .i64 509, .int .i64 564], .int .i64 0] := by kernel_rfl
theorem aw5 : mixR sampL 0 1 1000 ⟨500, 501⟩ = [.agg [.int .i64 0, .int .i64 0], .int .i64 4] := by kernel_rfl
theorem weighS : Pure Try.prog 11 [sacksV sampL, takesV sampB] (.tuple [.agg [.int .i64 56, .int .i64 89, .int .i64 529, .int .i64 565, .int .i64 42, .int .i64 56, .int .i64 403, .int .i64 473, .int .i64 962, .int .i64 1008], .int .i64 0]) := aw1 ▸ weigh_ok sampL sampB (by decide) (by decide)
theorem shareS : Pure Try.prog 13 [sacksV sampL, takesV sampB] (.tuple [.agg [.int .i64 528, .int .i64 583], .int .i64 0]) := aw2 ▸ share_ok sampL sampB (by decide) (by decide)
theorem waterS : Pure Try.prog 15 [sacksV sampL, takesV sampB, .agg [.int .i64 300, .int .i64 400]] (.tuple [.agg [.int .i64 395, .int .i64 588], .int .i64 0]) := aw3 ▸ water_ok sampL sampB ⟨300, 400⟩ (by decide) (by decide)
theorem mixA : Pure Try.prog 17 [sacksV sampL, .int .i64 0, .int .i64 1, .int .i64 1000, .agg [.int .i64 500, .int .i64 600]] (.tuple [.agg [.int .i64 509, .int .i64 564], .int .i64 0]) := aw4 ▸ mix_ok sampL 0 1 1000 ⟨500, 600⟩ (by decide)
theorem mixB : Pure Try.prog 17 [sacksV sampL, .int .i64 0, .int .i64 1, .int .i64 1000, .agg [.int .i64 500, .int .i64 501]] (.tuple [.agg [.int .i64 0, .int .i64 0], .int .i64 4]) := aw5 ▸ mix_ok sampL 0 1 1000 ⟨500, 501⟩ (by decide)
/-! ### Contracts, number by number -/
theorem weigh_n (l : List Sk) (b : List Tk) (hl : l.length ≤ bigN) (hb : b.length ≤ bigN) : Pure Try.prog 11 [sacksV l, takesV b] (.tuple [.agg [.int .i64 (wL l b 0), .int .i64 (wH l b 0), .int .i64 (wL l b 1), .int .i64 (wH l b 1), .int .i64 (wL l b 2), .int .i64 (wH l b 2), .int .i64 (wL l b 3), .int .i64 (wH l b 3), .int .i64 (wL l b 4), .int .i64 (wH l b 4)], .int .i64 (okE l b)]) := rWeighR_eq l b ▸ weigh_ok l b hl hb
theorem rWeigh_n (l : List Sk) (b : List Tk) (hl : l.length ≤ bigN) (hb : b.length ≤ bigN) : Pure Try.prog 12 [sacksV l, takesV b] (.tuple [.agg [.int .i64 (wL l b 0), .int .i64 (wH l b 0), .int .i64 (wL l b 1), .int .i64 (wH l b 1), .int .i64 (wL l b 2), .int .i64 (wH l b 2), .int .i64 (wL l b 3), .int .i64 (wH l b 3), .int .i64 (wL l b 4), .int .i64 (wH l b 4)], .int .i64 (okE l b)]) := rWeighR_eq l b ▸ rWeigh_ok l b hl hb
theorem share_n (l : List Sk) (b : List Tk) (hl : l.length ≤ bigN) (hb : b.length ≤ bigN) : Pure Try.prog 13 [sacksV l, takesV b] (.tuple [.agg [.int .i64 (shL l b), .int .i64 (shH l b)], .int .i64 (okE l b)]) := shareR_eq l b ▸ share_ok l b hl hb
theorem rShare_n (l : List Sk) (b : List Tk) (hl : l.length ≤ bigN) (hb : b.length ≤ bigN) : Pure Try.prog 14 [sacksV l, takesV b] (.tuple [.agg [.int .i64 (shL l b), .int .i64 (shH l b)], .int .i64 (okE l b)]) := shareR_eq l b ▸ rShare_ok l b hl hb
theorem water_n (l : List Sk) (b : List Tk) (w : Sp) (hl : l.length ≤ bigN) (hb : b.length ≤ bigN) : Pure Try.prog 15 [sacksV l, takesV b, .agg [.int .i64 w.lo, .int .i64 w.hi]] (.tuple [.agg [.int .i64 (waL l b w), .int .i64 (waH l b w)], .int .i64 (waE l b w)]) := waterR_eq l b w ▸ water_ok l b w hl hb
theorem rWater_n (l : List Sk) (b : List Tk) (w : Sp) (hl : l.length ≤ bigN) (hb : b.length ≤ bigN) : Pure Try.prog 16 [sacksV l, takesV b, .agg [.int .i64 w.lo, .int .i64 w.hi]] (.tuple [.agg [.int .i64 (waL l b w), .int .i64 (waH l b w)], .int .i64 (waE l b w)]) := waterR_eq l b w ▸ rWater_ok l b w hl hb
theorem mix_n (l : List Sk) (i j t : Int) (w : Sp) (hl : l.length ≤ bigN) : Pure Try.prog 17 [sacksV l, .int .i64 i, .int .i64 j, .int .i64 t, .agg [.int .i64 w.lo, .int .i64 w.hi]] (.tuple [.agg [.int .i64 (mixL l i j t w), .int .i64 (mixH l i j t w)], .int .i64 (mixE l i j t w)]) := mixR_eq l i j t w ▸ mix_ok l i j t w hl
theorem rMix_n (l : List Sk) (i j t : Int) (w : Sp) (hl : l.length ≤ bigN) : Pure Try.prog 18 [sacksV l, .int .i64 i, .int .i64 j, .int .i64 t, .agg [.int .i64 w.lo, .int .i64 w.hi]] (.tuple [.agg [.int .i64 (mixL l i j t w), .int .i64 (mixH l i j t w)], .int .i64 (mixE l i j t w)]) := mixR_eq l i j t w ▸ rMix_ok l i j t w hl
/-! ### From what a statement's arguments may hold -/
theorem ints_of {n : Nat} {el : List PV} : TyL (List.replicate n (.leaf (.int .i64))) el → ∃ xs : List Int, xs.length = n ∧ el = xs.map (PV.int .i64) := by
  induction n generalizing el with
  | zero => intro h; cases h; exact ⟨[], rfl, rfl⟩
  | succ n ih =>
    intro h
    cases h with
    | cons _ _ x xs h1 h2 =>
      obtain ⟨ys, e1, e2⟩ := ih h2
      cases h1 with
      | int _ k hw => exact ⟨k :: ys, by simp [e1], by rw [e2]; rfl⟩
theorem two_of {el : List PV} (h : TyL [.leaf (.int .i64), .leaf (.int .i64)] el) : ∃ w : Sp, el = w.cells := by
  obtain ⟨xs, e1, e2⟩ := ints_of (n := 2) h
  match xs, e1 with
  | [a, b], _ => exact ⟨⟨a, b⟩, e2⟩
theorem sk_of {el : List PV} (h : TyL [.leaf (.int .i64), .leaf (.int .i64), .leaf (.int .i64), .leaf (.int .i64), .leaf (.int .i64), .leaf (.int .i64)] el) : ∃ s : Sk, el = s.cells := by
  obtain ⟨xs, e1, e2⟩ := ints_of (n := 6) h
  match xs, e1 with
  | [a, b, c, d, e, f], _ => exact ⟨⟨⟨a, b⟩, ⟨c, d⟩, ⟨e, f⟩⟩, e2⟩
theorem tk_of {el : List PV} (h : TyL [.leaf (.int .i64), .leaf (.int .i64), .leaf (.int .i64)] el) : ∃ t : Tk, el = t.cells := by
  obtain ⟨xs, e1, e2⟩ := ints_of (n := 3) h
  match xs, e1 with
  | [a, b, c], _ => exact ⟨⟨a, ⟨b, c⟩⟩, e2⟩
theorem lst_of {α : Type} {f : α → List PV} {p : List PV → Prop} (hp : ∀ el, p el → ∃ a, el = f a) : ∀ els : List (List PV), (∀ (i : Nat) (el : List PV), els[i]? = some el → p el) → ∃ l : List α, els.flatten = l.flatMap f ∧ l.length = els.length
  | [], _ => ⟨[], rfl, rfl⟩
  | e :: els, h => by
    obtain ⟨a, ha⟩ := hp e (h 0 e rfl)
    obtain ⟨l, h1, h2⟩ := lst_of hp els (fun i el hi => h (i + 1) el (by simpa using hi))
    exact ⟨a :: l, by simp [ha, h1], by simp [h2]⟩
theorem sl_of {α : Type} {f : α → List PV} {sh : List Sh} (hp : ∀ el, TyL sh el → ∃ a, el = f a) {x : List PV} (h : TyL [.sl sh] x) : ∃ l : List α, x = [.is (l.flatMap f) l.length] ∧ l.length ≤ 9223372036854775807 := by
  cases h with
  | cons _ _ y ys h1 h2 =>
    cases h2
    cases h1 with
    | sl _ els hl hel =>
      obtain ⟨l, e1, e2⟩ := lst_of hp els hel
      exact ⟨l, by rw [e1, e2], by rw [e2]; exact hl⟩
theorem int_of {x : List PV} (h : TyL [.leaf (.int .i64)] x) : ∃ n : Int, x = [.int .i64 n] := by
  obtain ⟨xs, e1, e2⟩ := ints_of (n := 1) h
  match xs, e1 with
  | [a], _ => exact ⟨a, e2⟩
end Go.Proofs.Ytmcejcidbekpkaa
