/-
  From a statement's arguments to abstract data, and back. No condition; generic over any program.
-/
import Derived.Test.YtmcejcidbekpkaaAf14
import Derived.Deep.Slices
import Derived.OpenShut
import Derived.ProofKit
import Derived.Below
set_option linter.unusedVariables false
set_option linter.unusedSimpArgs false
set_option linter.unnecessarySimpa false
set_option linter.unusedSectionVars false
namespace Go.AF
open Go.Deep Go.RowKit

/-- What one cell may hold. -/
inductive Sh where
  | leaf (d : TypeDesc)
  | sl (l : List Sh)

mutual
inductive Ty : Sh → PV → Prop
  | int (k : IntKind) (n : Int) : (Lit.int k n).wf = true → Ty (.leaf (.int k)) (.int k n)
  | bool (b : Bool) : Ty (.leaf .bool) (.bool b)
  | str (s : ByteArray) : s.size ≤ maxLen → Ty (.leaf .string) (.str s)
  | sl (l : List Sh) (els : List (List PV)) : els.length ≤ maxLen → (∀ (i : Nat) (el : List PV), els[i]? = some el → TyL l el) → Ty (.sl l) (.is els.flatten els.length)
inductive TyL : List Sh → List PV → Prop
  | nil : TyL [] []
  | cons (s : Sh) (ss : List Sh) (x : PV) (xs : List PV) : Ty s x → TyL ss xs → TyL (s :: ss) (x :: xs)
end
theorem TyL.length {l : List Sh} {xs : List PV} (h : TyL l xs) : xs.length = l.length := by
  induction l generalizing xs with
  | nil => cases h; rfl
  | cons s ss ih => cases h with | cons _ _ x xs h1 h2 => simp [ih h2]
theorem TyL.append {l1 l2 : List Sh} {xs ys : List PV} (h : TyL l1 xs) (k : TyL l2 ys) : TyL (l1 ++ l2) (xs ++ ys) := by
  induction l1 generalizing xs with
  | nil => cases h; exact k
  | cons s ss ih => cases h with | cons _ _ x xs h1 h2 => exact .cons _ _ _ _ h1 (ih h2)

def shFs (g : TypeId → Option (List Sh)) (P : Program) : List Field → Nat → Option (List Sh)
  | [], _ => some []
  | f :: fs, off => match g f.type with
    | some l => if f.offset = off ∧ P.cellsOf f.type = l.length then (shFs g P fs (off + l.length)).map (l ++ ·) else none
    | none => none
def shI (P : Program) : Nat → TypeId → Option (List Sh)
  | 0, _ => none
  | d + 1, t => match P.underlying t with
    | some (.int k) => some [.leaf (.int k)]
    | some .bool => some [.leaf .bool]
    | some .string => some [.leaf .string]
    | some (.struct fs) => match shFs (shI P d) P fs.toList 0 with
      | some l => if P.cellsOf t = l.length then some l else none
      | none => none
    | some (.array n e) => match shI P d e with
      | some l => if P.cellsOf e = l.length ∧ P.cellsOf t = n * l.length then some (List.replicate n l).flatten else none
      | none => none
    | some (.slice e) => match shI P d e with
      | some l => if P.cellsOf e = l.length ∧ 0 < l.length then some [.sl l] else none
      | none => none
    | _ => none

section
variable {P : Program} {H : Type} {enc : TypeId × Value → H} {w : World} {base : Nat} {spare : Nat → Bool} {held : Bool}

theorem RelAt.append {I : Nat → Prop} : ∀ {xs ys : List PV} {b o : Nat}, RelAt w I xs b o → RelAt w I ys b (o + xs.length) → RelAt w I (xs ++ ys) b o
  | [], ys, b, o, _, h => by simpa using h
  | x :: xs, ys, b, o, h, k => by
    obtain ⟨h1, h2⟩ := h
    refine ⟨h1, RelAt.append h2 ?_⟩
    rw [show o + 1 + xs.length = o + (x :: xs).length by simp; omega]
    exact k

theorem open_shFs {g : TypeId → Option (List Sh)} {fuel : Nat} {I : Nat → Prop} (hg : ∀ (t : TypeId) (l : List Sh), g t = some l → ∀ cs x, DataW.trod enc P w base spare held fuel t cs = some x → ∃ xs, RelL w I xs cs ∧ TyL l xs) (cs : List Value) :
    ∀ (fs : List Field) (off : Nat) (l : List Sh), shFs g P fs off = some l → off + l.length = cs.length → (∀ f ∈ fs, ∃ x, DataW.trod enc P w base spare held fuel f.type ((cs.drop f.offset).take (P.cellsOf f.type)) = some x) → ∃ xs, RelL w I xs (cs.drop off) ∧ TyL l xs
  | [], off, l, h, hl, _ => by
    simp [shFs] at h
    subst h
    refine ⟨[], ?_, .nil⟩
    simp only [RelL]
    exact List.drop_of_length_le (by simp at hl; omega)
  | f :: fs, off, l, h, hl, hx => by
    simp only [shFs] at h
    split at h
    · rename_i l1 h1
      split at h
      · rename_i hc
        obtain ⟨rfl, hcell⟩ := hc
        simp only [Option.map_eq_some_iff] at h
        obtain ⟨l2, h2, rfl⟩ := h
        simp only [List.length_append] at hl
        obtain ⟨x, hx1⟩ := hx f (by simp)
        obtain ⟨xs, k1, k2⟩ := hg f.type l1 h1 _ _ hx1
        obtain ⟨ys, k3, k4⟩ := open_shFs hg cs fs (f.offset + l1.length) l2 h2 (by omega) (fun f' hf' => hx f' (by simp [hf']))
        refine ⟨xs ++ ys, ?_, k2.append k4⟩
        have : cs.drop f.offset = (cs.drop f.offset).take (P.cellsOf f.type) ++ cs.drop (f.offset + l1.length) := by
          rw [hcell, ← List.drop_drop, List.take_append_drop]
        rw [this]
        exact RelL.append k1 k3
      · cases h
    · cases h

theorem open_shArr {fuel : Nat} {I : Nat → Prop} {e : TypeId} {l : List Sh} (hg : ∀ cs x, DataW.trod enc P w base spare held fuel e cs = some x → ∃ xs, RelL w I xs cs ∧ TyL l xs) (hc : P.cellsOf e = l.length) (cs : List Value) :
    ∀ (n k : Nat), (k + n) * l.length = cs.length → (∀ i, k ≤ i → i < k + n → ∃ x, DataW.trod enc P w base spare held fuel e ((cs.drop (i * P.cellsOf e)).take (P.cellsOf e)) = some x) → ∃ xs, RelL w I xs (cs.drop (k * l.length)) ∧ TyL (List.replicate n l).flatten xs
  | 0, k, hl, _ => by
    refine ⟨[], ?_, .nil⟩
    simp only [RelL]
    exact List.drop_of_length_le (by simp at hl; omega)
  | n + 1, k, hl, hx => by
    obtain ⟨x, hx1⟩ := hx k (Nat.le_refl _) (by omega)
    obtain ⟨xs, k1, k2⟩ := hg _ _ hx1
    obtain ⟨ys, k3, k4⟩ := open_shArr hg hc cs n (k + 1) (by rw [← hl]; congr 1; omega) (fun i h1 h2 => hx i (by omega) (by omega))
    refine ⟨xs ++ ys, ?_, ?_⟩
    · have : cs.drop (k * l.length) = (cs.drop (k * P.cellsOf e)).take (P.cellsOf e) ++ cs.drop ((k + 1) * l.length) := by
        rw [hc, Nat.add_mul, Nat.one_mul, ← List.drop_drop, List.take_append_drop]
      rw [this]
      exact RelL.append k1 k3
    · rw [List.replicate_succ, List.flatten_cons]
      exact k2.append k4

/-- The elements of a slice that lies in memory. -/
theorem open_shSl {I : Nat → Prop} {l : List Sh} {b o : Nat} : ∀ (n : Nat) (at_ : ∀ i, i < n → ∃ cs' xs, RelL w I xs cs' ∧ TyL l xs ∧ cs'.length = l.length ∧ ∀ j v, cs'[j]? = some v → w.cell? ⟨b, o + i * l.length + j, none⟩ = some v),
    ∃ els : List (List PV), els.length = n ∧ (∀ (i : Nat) (el : List PV), els[i]? = some el → TyL l el) ∧ RelAt w I els.flatten b o ∧ els.flatten.length = n * l.length
  | 0, _ => ⟨[], rfl, by simp, by simp [RelAt], by simp⟩
  | n + 1, hat => by
    obtain ⟨els, h1, h2, h3, h4⟩ := open_shSl n (fun i hi => hat i (by omega))
    obtain ⟨cs', xs, k1, k2, k3, k4⟩ := hat n (by omega)
    refine ⟨els ++ [xs], by simp [h1], fun i el hel => ?_, ?_, ?_⟩
    · rw [List.getElem?_append] at hel
      split at hel
      · exact h2 i el hel
      · rename_i hi
        have : i - els.length = 0 := by
          rcases Nat.eq_zero_or_pos (i - els.length) with h | h
          · exact h
          · rw [List.getElem?_eq_none (by simp; omega)] at hel; cases hel
        rw [this] at hel
        simp at hel
        subst hel
        exact k2
    · rw [List.flatten_append, List.flatten_cons, List.flatten_nil, List.append_nil]
      refine RelAt.append h3 ?_
      rw [h4]
      exact RelAt.of_list xs cs' (o + n * l.length) k1 k4
    · rw [List.flatten_append, List.length_append, h4]
      simp [k2.length, Nat.add_mul]

theorem open_sh (hb : base = 0) : ∀ (d : Nat) (t : TypeId) (l : List Sh), shI P d t = some l → ∀ (fuel : Nat) (cs : List Value) (x : DataW H × List MemPlace), DataW.trod enc P w base (fun _ => true) held fuel t cs = some x →
    ∃ xs, RelL w (fun b => b < w.heap.size) xs cs ∧ TyL l xs
  | 0, _, _, h, _, _, _, _ => by simp [shI] at h
  | d + 1, t, l, h, fuel, cs, x, hx => by
    unfold shI at h
    split at h
    · rename_i k hu
      simp at h; subst h
      obtain ⟨n, rfl, rfl, hw⟩ := DataW.trod_int hu hx
      exact ⟨[.int k n], ⟨_, _, rfl, rfl, rfl⟩, .cons _ _ _ _ (.int k n hw) .nil⟩
    · rename_i hu
      simp at h; subst h
      obtain ⟨b, rfl, rfl⟩ := DataW.trod_bool hu hx
      exact ⟨[.bool b], ⟨_, _, rfl, rfl, rfl⟩, .cons _ _ _ _ (.bool b) .nil⟩
    · rename_i hu
      simp at h; subst h
      obtain ⟨s, rfl, rfl, hsz⟩ := DataW.trod_string hu hx
      exact ⟨[.str s], ⟨_, _, rfl, rfl, rfl⟩, .cons _ _ _ _ (.str s hsz) .nil⟩
    · rename_i fs hu
      split at h
      · rename_i l' hl'
        split at h
        · rename_i hc
          simp at h; subst h
          obtain ⟨ys, n, rfl, hy, hlen, hyl, hf⟩ := DataW.trod_struct hu hx
          have := open_shFs (fuel := n) (I := fun b => b < w.heap.size) (fun t' l'' ht' cs' x' hx' => open_sh hb d t' l'' ht' n cs' x' hx') cs fs.toList 0 l' hl' (by rw [hlen, hc]; simp) (fun f hf' => by
            obtain ⟨i, hi⟩ := List.getElem?_of_mem hf'
            have hi' : fs[i]? = some f := by simpa using hi
            have h1 := hf i f hi'
            have hil : i < ys.length := by rw [hyl]; exact (Array.getElem?_eq_some_iff.1 hi').1
            rw [List.getElem?_eq_getElem hil] at h1
            exact ⟨_, h1⟩)
          simpa using this
        · cases h
      · cases h
    · rename_i n e hu
      split at h
      · rename_i l' hl'
        split at h
        · rename_i hc
          simp at h; subst h
          obtain ⟨ys, m, rfl, hy, hlen, hyl, hf⟩ := DataW.trod_array hu hx
          have := open_shArr (fuel := m) (I := fun b => b < w.heap.size) (fun cs' x' hx' => open_sh hb d e l' hl' m cs' x' hx') hc.1 cs n 0 (by rw [hlen, hc.2]; simp) (fun i _ hi => by
            have h1 := hf i (by omega)
            have hil : i < ys.length := by rw [hyl]; omega
            rw [List.getElem?_eq_getElem hil] at h1
            exact ⟨_, h1⟩)
          simpa using this
        · cases h
      · cases h
    · rename_i e hu
      split at h
      · rename_i l' hl'
        split at h
        · rename_i hc
          simp at h; subst h
          rcases open_slice hu hx with ⟨rfl, rfl⟩ | ⟨a, len, cap, m, n, D, Pl, rfl, hba, hle, hm, hmm, hxe, hi⟩
          · refine ⟨[.is ([] : List (List PV)).flatten 0], ⟨_, _, rfl, .inl ⟨⟨none, 0, rfl⟩, rfl⟩, rfl⟩, .cons _ _ _ _ (.sl l' [] (by simp) (by simp)) .nil⟩
          · simp only [if_true] at hmm
            subst hmm
            by_cases hl0 : len * l'.length = 0
            · -- nothing to read
              rcases Nat.mul_eq_zero.1 hl0 with h0 | h0
              · subst h0
                exact ⟨[.is ([] : List (List PV)).flatten 0], ⟨_, _, rfl, .inl ⟨⟨_, _, rfl⟩, rfl⟩, rfl⟩, .cons _ _ _ _ (.sl l' [] (by simp) (by simp)) .nil⟩
              · omega
            · have hspot : a.spot = none ∧ a.block < w.heap.size := by
                obtain ⟨cs', hc', _⟩ := hi 0 (by
                  have : 0 < len := by
                    rcases Nat.eq_zero_or_pos len with h | h
                    · subst h; simp at hl0
                    · exact h
                  omega)
                obtain ⟨_, hcl, hat⟩ := World.cells?_some hc'
                have hpos : 0 < P.cellsOf e := by
                  rcases Nat.eq_zero_or_pos l'.length with h | h
                  · rw [h] at hl0; simp at hl0
                  · omega
                have h1 := hat 0 hpos
                rw [List.getElem?_eq_getElem (by omega)] at h1
                simp [Addr.add] at h1
                exact ⟨World.cell?_spot h1, World.block_lt_of_cell? _ _ h1⟩
              obtain ⟨b, o, spot⟩ := a
              obtain ⟨hsp, hlt⟩ := hspot
              simp only at hsp hlt
              subst hsp
              obtain ⟨els, k1, k2, k3, k4⟩ := open_shSl (w := w) (I := fun b => b < w.heap.size) (l := l') (b := b) (o := o) len (fun i hil => by
                obtain ⟨cs', hc', ht'⟩ := hi i (by omega)
                obtain ⟨_, hcl, hat⟩ := World.cells?_some hc'
                obtain ⟨xs, k1, k2⟩ := open_sh hb d e l' hl' n cs' _ ht'
                refine ⟨cs', xs, k1, k2, by omega, fun j v hj => ?_⟩
                have hjl : j < P.cellsOf e := by rw [← hcl]; exact (List.getElem?_eq_some_iff.1 hj).1
                have h1 := hat j hjl
                rw [hj, add_none, add_none, hc.1] at h1
                exact h1)
              refine ⟨[.is els.flatten els.length], ⟨_, _, rfl, .inr ⟨b, o, m, fun _ => hlt, by omega, by rw [k1], k3⟩, rfl⟩, .cons _ _ _ _ (.sl l' els (by omega) k2) .nil⟩
        · cases h
      · cases h
    · cases h

/-- One argument. -/
def argTy (P : Program) (d : Nat) (t : TypeId) : Option (Bool × List Sh) :=
  match tyI P t, shI P d t with
  | some (b, n), some l => if n = l.length ∧ (b = false → n = 1) then some (b, l) else none
  | _, _ => none
def argP (b : Bool) (xs : List PV) : PV := if b then .agg xs else xs.headD .nilPtr

theorem open_arg {d : Nat} {t : TypeId} {b : Bool} {l : List Sh} {v : Value} {D : DataW H} {ps : List MemPlace} {base' : Nat} (ht : argTy P d t = some (b, l)) (hok : Value.okWide P w .any base' t v) (h : DataW.Trod enc P w 0 (fun _ => true) true t v D ps) :
    ∃ xs, TyL l xs ∧ Rel w (fun b => b < w.heap.size) (argP b xs) v := by
  obtain ⟨fuel, h⟩ := h
  unfold argTy at ht
  split at ht
  · rename_i b' n l' h1 h2
    split at ht
    · rename_i hc
      simp at ht
      obtain ⟨rfl, rfl⟩ := ht
      obtain ⟨xs, k1, k2⟩ := open_sh rfl d t l' h2 fuel _ _ h
      refine ⟨xs, k2, ?_⟩
      obtain ⟨dd, inf, hu, hi, hagg, hsz⟩ := tyI_some h1
      cases b' with
      | true =>
        have : ∃ cs, v = .agg cs := by
          unfold Value.okWide at hok
          rw [hu] at hok
          cases dd <;> simp [isAggD] at hagg <;> (obtain ⟨cs, h3, _⟩ := hok; exact ⟨cs, h3⟩)
        obtain ⟨cs, rfl⟩ := this
        exact ⟨cs, rfl, by simpa [Value.cells] using k1⟩
      | false =>
        have hn := hc.2 rfl
        have hl : xs.length = 1 := by rw [k2.length]; omega
        obtain ⟨x, rfl⟩ := List.length_eq_one_iff.1 hl
        obtain ⟨u, us, h3, h4, h5⟩ := k1
        simp only [RelL] at h5
        subst h5
        have hv : v.cells.toList = [v] := by
          unfold Value.okWide at hok
          rw [hu] at hok
          cases dd <;> simp [isAggD] at hagg <;> (cases v <;> first | rfl | (exfalso; simp [Cell.okWide, Cell.ok, hu] at hok))
        rw [hv] at h3
        simp at h3
        subst h3
        exact h4
    · cases ht
  · cases ht

theorem Inv.start {w : World} : Inv P w (fun b => b < w.heap.size) [] [] :=
  ⟨rfl, fun i b blk h => by simp at h, fun b h => h, fun i b blk h => by simp at h, fun i j b x y h => by simp at h, fun i b blk h => by simp at h⟩

theorem ExtW.below {w w' : World} {I I' : Nat → Prop} {ρ' : List Nat} (h : ExtW w I [] w' I' ρ') : Below w.heap.size w w' :=
  ⟨h.os, h.tape, h.output, h.size, fun k hk => h.keep k hk (by simp)⟩

/-- A law that holds, as a call. -/
theorem Pure.calls {f : FuncId} {args : List PV} {us : List Value} {r : PV} {w : World} (hp : Pure P f args r) (hus : RelL w (fun b => b < w.heap.size) args us) : Calls P f us.toArray w fun e w' => ∃ u, e = .returned u ∧ Rel w' (fun b => b < w'.heap.size) r u ∧ Below w.heap.size w w' := by
  rw [← callsIn_wide (n := 0)]
  refine CallsIn.mono (hp w _ [] us Inv.start (RelVL.pure.2 hus)) ?_
  rintro e w' ⟨u, v, J, σ, H', rfl, ⟨rfl, rfl⟩, h3, h4, h5⟩
  exact ⟨u, rfl, Rel.mono (fun b hb => h4.ib b hb) (fun _ _ => rfl) _ _ h5, h3.w.below⟩
end
end Go.AF
