/-
  The bridge from a statement; short forms; own rows; bits. No condition; generic over any program.
-/
import Derived.Test.YtplofbjppcbchaaDoorFaVB
import Derived.Deep.Slices
import Derived.OpenShut
import Derived.ProofKit
import Derived.Below
section
/-! ## From a statement's arguments to abstract data, and back. -/
section
set_option linter.unusedVariables false
set_option linter.unusedSimpArgs false
set_option linter.unnecessarySimpa false
set_option linter.unusedSectionVars false
namespace Go.AF
open Go.Deep Go.RowKit

/-- What one cell may hold. -/
inductive Sh where
  | leaf (d : TypeDesc)
  | sl (l : List Sh)

mutual
inductive Ty : Sh → PV → Prop
  | int (k : IntKind) (n : Int) : (Lit.int k n).wf = true → Ty (.leaf (.int k)) (.int k n)
  | bool (b : Bool) : Ty (.leaf .bool) (.bool b)
  | str (s : ByteArray) : s.size ≤ maxLen → Ty (.leaf .string) (.str s)
  | sl (l : List Sh) (els : List (List PV)) : els.length ≤ maxLen → (∀ (i : Nat) (el : List PV), els[i]? = some el → TyL l el) → Ty (.sl l) (.is els.flatten els.length)
inductive TyL : List Sh → List PV → Prop
  | nil : TyL [] []
  | cons (s : Sh) (ss : List Sh) (x : PV) (xs : List PV) : Ty s x → TyL ss xs → TyL (s :: ss) (x :: xs)
end
theorem TyL.length {l : List Sh} {xs : List PV} (h : TyL l xs) : xs.length = l.length := by
  induction l generalizing xs with
  | nil => cases h; rfl
  | cons s ss ih => cases h with | cons _ _ x xs h1 h2 => simp [ih h2]
theorem TyL.append {l1 l2 : List Sh} {xs ys : List PV} (h : TyL l1 xs) (k : TyL l2 ys) : TyL (l1 ++ l2) (xs ++ ys) := by
  induction l1 generalizing xs with
  | nil => cases h; exact k
  | cons s ss ih => cases h with | cons _ _ x xs h1 h2 => exact .cons _ _ _ _ h1 (ih h2)

def shFs (g : TypeId → Option (List Sh)) (P : Program) : List Field → Nat → Option (List Sh)
  | [], _ => some []
  | f :: fs, off => match g f.type with
    | some l => if f.offset = off ∧ P.cellsOf f.type = l.length then (shFs g P fs (off + l.length)).map (l ++ ·) else none
    | none => none
def shI (P : Program) : Nat → TypeId → Option (List Sh)
  | 0, _ => none
  | d + 1, t => match P.underlying t with
    | some (.int k) => some [.leaf (.int k)]
    | some .bool => some [.leaf .bool]
    | some .string => some [.leaf .string]
    | some (.struct fs) => match shFs (shI P d) P fs.toList 0 with
      | some l => if P.cellsOf t = l.length then some l else none
      | none => none
    | some (.array n e) => match shI P d e with
      | some l => if P.cellsOf e = l.length ∧ P.cellsOf t = n * l.length then some (List.replicate n l).flatten else none
      | none => none
    | some (.slice e) => match shI P d e with
      | some l => if P.cellsOf e = l.length ∧ 0 < l.length then some [.sl l] else none
      | none => none
    | _ => none

section
variable {P : Program} {H : Type} {enc : TypeId × Value → H} {w : World} {base : Nat} {spare : Nat → Bool} {held : Bool}

theorem RelAt.append {I : Nat → Prop} : ∀ {xs ys : List PV} {b o : Nat}, RelAt w I xs b o → RelAt w I ys b (o + xs.length) → RelAt w I (xs ++ ys) b o
  | [], ys, b, o, _, h => by simpa using h
  | x :: xs, ys, b, o, h, k => by
    obtain ⟨h1, h2⟩ := h
    refine ⟨h1, RelAt.append h2 ?_⟩
    rw [show o + 1 + xs.length = o + (x :: xs).length by simp; omega]
    exact k

theorem open_shFs {g : TypeId → Option (List Sh)} {fuel : Nat} {I : Nat → Prop} (hg : ∀ (t : TypeId) (l : List Sh), g t = some l → ∀ cs x, DataW.trod enc P w base spare held fuel t cs = some x → ∃ xs, RelL w I xs cs ∧ TyL l xs) (cs : List Value) :
    ∀ (fs : List Field) (off : Nat) (l : List Sh), shFs g P fs off = some l → off + l.length = cs.length → (∀ f ∈ fs, ∃ x, DataW.trod enc P w base spare held fuel f.type ((cs.drop f.offset).take (P.cellsOf f.type)) = some x) → ∃ xs, RelL w I xs (cs.drop off) ∧ TyL l xs
  | [], off, l, h, hl, _ => by
    simp [shFs] at h
    subst h
    refine ⟨[], ?_, .nil⟩
    simp only [RelL]
    exact List.drop_of_length_le (by simp at hl; omega)
  | f :: fs, off, l, h, hl, hx => by
    simp only [shFs] at h
    split at h
    · rename_i l1 h1
      split at h
      · rename_i hc
        obtain ⟨rfl, hcell⟩ := hc
        simp only [Option.map_eq_some_iff] at h
        obtain ⟨l2, h2, rfl⟩ := h
        simp only [List.length_append] at hl
        obtain ⟨x, hx1⟩ := hx f (by simp)
        obtain ⟨xs, k1, k2⟩ := hg f.type l1 h1 _ _ hx1
        obtain ⟨ys, k3, k4⟩ := open_shFs hg cs fs (f.offset + l1.length) l2 h2 (by omega) (fun f' hf' => hx f' (by simp [hf']))
        refine ⟨xs ++ ys, ?_, k2.append k4⟩
        have : cs.drop f.offset = (cs.drop f.offset).take (P.cellsOf f.type) ++ cs.drop (f.offset + l1.length) := by
          rw [hcell, ← List.drop_drop, List.take_append_drop]
        rw [this]
        exact RelL.append k1 k3
      · cases h
    · cases h

theorem open_shArr {fuel : Nat} {I : Nat → Prop} {e : TypeId} {l : List Sh} (hg : ∀ cs x, DataW.trod enc P w base spare held fuel e cs = some x → ∃ xs, RelL w I xs cs ∧ TyL l xs) (hc : P.cellsOf e = l.length) (cs : List Value) :
    ∀ (n k : Nat), (k + n) * l.length = cs.length → (∀ i, k ≤ i → i < k + n → ∃ x, DataW.trod enc P w base spare held fuel e ((cs.drop (i * P.cellsOf e)).take (P.cellsOf e)) = some x) → ∃ xs, RelL w I xs (cs.drop (k * l.length)) ∧ TyL (List.replicate n l).flatten xs
  | 0, k, hl, _ => by
    refine ⟨[], ?_, .nil⟩
    simp only [RelL]
    exact List.drop_of_length_le (by simp at hl; omega)
  | n + 1, k, hl, hx => by
    obtain ⟨x, hx1⟩ := hx k (Nat.le_refl _) (by omega)
    obtain ⟨xs, k1, k2⟩ := hg _ _ hx1
    obtain ⟨ys, k3, k4⟩ := open_shArr hg hc cs n (k + 1) (by rw [← hl]; congr 1; omega) (fun i h1 h2 => hx i (by omega) (by omega))
    refine ⟨xs ++ ys, ?_, ?_⟩
    · have : cs.drop (k * l.length) = (cs.drop (k * P.cellsOf e)).take (P.cellsOf e) ++ cs.drop ((k + 1) * l.length) := by
        rw [hc, Nat.add_mul, Nat.one_mul, ← List.drop_drop, List.take_append_drop]
      rw [this]
      exact RelL.append k1 k3
    · rw [List.replicate_succ, List.flatten_cons]
      exact k2.append k4

/-- The elements of a slice that lies in memory. -/
theorem open_shSl {I : Nat → Prop} {l : List Sh} {b o : Nat} : ∀ (n : Nat) (at_ : ∀ i, i < n → ∃ cs' xs, RelL w I xs cs' ∧ TyL l xs ∧ cs'.length = l.length ∧ ∀ j v, cs'[j]? = some v → w.cell? ⟨b, o + i * l.length + j, none⟩ = some v),
    ∃ els : List (List PV), els.length = n ∧ (∀ (i : Nat) (el : List PV), els[i]? = some el → TyL l el) ∧ RelAt w I els.flatten b o ∧ els.flatten.length = n * l.length
  | 0, _ => ⟨[], rfl, by simp, by simp [RelAt], by simp⟩
  | n + 1, hat => by
    obtain ⟨els, h1, h2, h3, h4⟩ := open_shSl n (fun i hi => hat i (by omega))
    obtain ⟨cs', xs, k1, k2, k3, k4⟩ := hat n (by omega)
    refine ⟨els ++ [xs], by simp [h1], fun i el hel => ?_, ?_, ?_⟩
    · rw [List.getElem?_append] at hel
      split at hel
      · exact h2 i el hel
      · rename_i hi
        have : i - els.length = 0 := by
          rcases Nat.eq_zero_or_pos (i - els.length) with h | h
          · exact h
          · rw [List.getElem?_eq_none (by simp; omega)] at hel; cases hel
        rw [this] at hel
        simp at hel
        subst hel
        exact k2
    · rw [List.flatten_append, List.flatten_cons, List.flatten_nil, List.append_nil]
      refine RelAt.append h3 ?_
      rw [h4]
      exact RelAt.of_list xs cs' (o + n * l.length) k1 k4
    · rw [List.flatten_append, List.length_append, h4]
      simp [k2.length, Nat.add_mul]

theorem open_sh (hb : base = 0) : ∀ (d : Nat) (t : TypeId) (l : List Sh), shI P d t = some l → ∀ (fuel : Nat) (cs : List Value) (x : DataW H × List MemPlace), DataW.trod enc P w base (fun _ => true) held fuel t cs = some x →
    ∃ xs, RelL w (fun b => b < w.heap.size) xs cs ∧ TyL l xs
  | 0, _, _, h, _, _, _, _ => by simp [shI] at h
  | d + 1, t, l, h, fuel, cs, x, hx => by
    unfold shI at h
    split at h
    · rename_i k hu
      simp at h; subst h
      obtain ⟨n, rfl, rfl, hw⟩ := DataW.trod_int hu hx
      exact ⟨[.int k n], ⟨_, _, rfl, rfl, rfl⟩, .cons _ _ _ _ (.int k n hw) .nil⟩
    · rename_i hu
      simp at h; subst h
      obtain ⟨b, rfl, rfl⟩ := DataW.trod_bool hu hx
      exact ⟨[.bool b], ⟨_, _, rfl, rfl, rfl⟩, .cons _ _ _ _ (.bool b) .nil⟩
    · rename_i hu
      simp at h; subst h
      obtain ⟨s, rfl, rfl, hsz⟩ := DataW.trod_string hu hx
      exact ⟨[.str s], ⟨_, _, rfl, rfl, rfl⟩, .cons _ _ _ _ (.str s hsz) .nil⟩
    · rename_i fs hu
      split at h
      · rename_i l' hl'
        split at h
        · rename_i hc
          simp at h; subst h
          obtain ⟨ys, n, rfl, hy, hlen, hyl, hf⟩ := DataW.trod_struct hu hx
          have := open_shFs (fuel := n) (I := fun b => b < w.heap.size) (fun t' l'' ht' cs' x' hx' => open_sh hb d t' l'' ht' n cs' x' hx') cs fs.toList 0 l' hl' (by rw [hlen, hc]; simp) (fun f hf' => by
            obtain ⟨i, hi⟩ := List.getElem?_of_mem hf'
            have hi' : fs[i]? = some f := by simpa using hi
            have h1 := hf i f hi'
            have hil : i < ys.length := by rw [hyl]; exact (Array.getElem?_eq_some_iff.1 hi').1
            rw [List.getElem?_eq_getElem hil] at h1
            exact ⟨_, h1⟩)
          simpa using this
        · cases h
      · cases h
    · rename_i n e hu
      split at h
      · rename_i l' hl'
        split at h
        · rename_i hc
          simp at h; subst h
          obtain ⟨ys, m, rfl, hy, hlen, hyl, hf⟩ := DataW.trod_array hu hx
          have := open_shArr (fuel := m) (I := fun b => b < w.heap.size) (fun cs' x' hx' => open_sh hb d e l' hl' m cs' x' hx') hc.1 cs n 0 (by rw [hlen, hc.2]; simp) (fun i _ hi => by
            have h1 := hf i (by omega)
            have hil : i < ys.length := by rw [hyl]; omega
            rw [List.getElem?_eq_getElem hil] at h1
            exact ⟨_, h1⟩)
          simpa using this
        · cases h
      · cases h
    · rename_i e hu
      split at h
      · rename_i l' hl'
        split at h
        · rename_i hc
          simp at h; subst h
          rcases open_slice hu hx with ⟨rfl, rfl⟩ | ⟨a, len, cap, m, n, D, Pl, rfl, hba, hle, hm, hmm, hxe, hi⟩
          · refine ⟨[.is ([] : List (List PV)).flatten 0], ⟨_, _, rfl, .inl ⟨⟨none, 0, rfl⟩, rfl⟩, rfl⟩, .cons _ _ _ _ (.sl l' [] (by simp) (by simp)) .nil⟩
          · simp only [if_true] at hmm
            subst hmm
            by_cases hl0 : len * l'.length = 0
            · -- nothing to read
              rcases Nat.mul_eq_zero.1 hl0 with h0 | h0
              · subst h0
                exact ⟨[.is ([] : List (List PV)).flatten 0], ⟨_, _, rfl, .inl ⟨⟨_, _, rfl⟩, rfl⟩, rfl⟩, .cons _ _ _ _ (.sl l' [] (by simp) (by simp)) .nil⟩
              · omega
            · have hspot : a.spot = none ∧ a.block < w.heap.size := by
                obtain ⟨cs', hc', _⟩ := hi 0 (by
                  have : 0 < len := by
                    rcases Nat.eq_zero_or_pos len with h | h
                    · subst h; simp at hl0
                    · exact h
                  omega)
                obtain ⟨_, hcl, hat⟩ := World.cells?_some hc'
                have hpos : 0 < P.cellsOf e := by
                  rcases Nat.eq_zero_or_pos l'.length with h | h
                  · rw [h] at hl0; simp at hl0
                  · omega
                have h1 := hat 0 hpos
                rw [List.getElem?_eq_getElem (by omega)] at h1
                simp [Addr.add] at h1
                exact ⟨World.cell?_spot h1, World.block_lt_of_cell? _ _ h1⟩
              obtain ⟨b, o, spot⟩ := a
              obtain ⟨hsp, hlt⟩ := hspot
              simp only at hsp hlt
              subst hsp
              obtain ⟨els, k1, k2, k3, k4⟩ := open_shSl (w := w) (I := fun b => b < w.heap.size) (l := l') (b := b) (o := o) len (fun i hil => by
                obtain ⟨cs', hc', ht'⟩ := hi i (by omega)
                obtain ⟨_, hcl, hat⟩ := World.cells?_some hc'
                obtain ⟨xs, k1, k2⟩ := open_sh hb d e l' hl' n cs' _ ht'
                refine ⟨cs', xs, k1, k2, by omega, fun j v hj => ?_⟩
                have hjl : j < P.cellsOf e := by rw [← hcl]; exact (List.getElem?_eq_some_iff.1 hj).1
                have h1 := hat j hjl
                rw [hj, add_none, add_none, hc.1] at h1
                exact h1)
              refine ⟨[.is els.flatten els.length], ⟨_, _, rfl, .inr ⟨b, o, m, fun _ => hlt, by omega, by rw [k1], k3⟩, rfl⟩, .cons _ _ _ _ (.sl l' els (by omega) k2) .nil⟩
        · cases h
      · cases h
    · cases h

/-- One argument. -/
def argTy (P : Program) (d : Nat) (t : TypeId) : Option (Bool × List Sh) :=
  match tyI P t, shI P d t with
  | some (b, n), some l => if n = l.length ∧ (b = false → n = 1) then some (b, l) else none
  | _, _ => none
def argP (b : Bool) (xs : List PV) : PV := if b then .agg xs else xs.headD .nilPtr

theorem open_arg {d : Nat} {t : TypeId} {b : Bool} {l : List Sh} {v : Value} {D : DataW H} {ps : List MemPlace} {base' : Nat} (ht : argTy P d t = some (b, l)) (hok : Value.okWide P w .any base' t v) (h : DataW.Trod enc P w 0 (fun _ => true) true t v D ps) :
    ∃ xs, TyL l xs ∧ Rel w (fun b => b < w.heap.size) (argP b xs) v := by
  obtain ⟨fuel, h⟩ := h
  unfold argTy at ht
  split at ht
  · rename_i b' n l' h1 h2
    split at ht
    · rename_i hc
      simp at ht
      obtain ⟨rfl, rfl⟩ := ht
      obtain ⟨xs, k1, k2⟩ := open_sh rfl d t l' h2 fuel _ _ h
      refine ⟨xs, k2, ?_⟩
      obtain ⟨dd, inf, hu, hi, hagg, hsz⟩ := tyI_some h1
      cases b' with
      | true =>
        have : ∃ cs, v = .agg cs := by
          unfold Value.okWide at hok
          rw [hu] at hok
          cases dd <;> simp [isAggD] at hagg <;> (obtain ⟨cs, h3, _⟩ := hok; exact ⟨cs, h3⟩)
        obtain ⟨cs, rfl⟩ := this
        exact ⟨cs, rfl, by simpa [Value.cells] using k1⟩
      | false =>
        have hn := hc.2 rfl
        have hl : xs.length = 1 := by rw [k2.length]; omega
        obtain ⟨x, rfl⟩ := List.length_eq_one_iff.1 hl
        obtain ⟨u, us, h3, h4, h5⟩ := k1
        simp only [RelL] at h5
        subst h5
        have hv : v.cells.toList = [v] := by
          unfold Value.okWide at hok
          rw [hu] at hok
          cases dd <;> simp [isAggD] at hagg <;> (cases v <;> first | rfl | (exfalso; simp [Cell.okWide, Cell.ok, hu] at hok))
        rw [hv] at h3
        simp at h3
        subst h3
        exact h4
    · cases ht
  · cases ht

theorem Inv.start {w : World} (hg : GOk P w fun b => b < w.heap.size) : Inv P w (fun b => b < w.heap.size) [] [] :=
  ⟨rfl, fun i b blk h => by simp at h, fun b h => h, fun i b blk h => by simp at h, fun i j b x y h => by simp at h, fun i b blk h => by simp at h, hg⟩

theorem ExtW.below {w w' : World} {I I' : Nat → Prop} {ρ' : List Nat} (h : ExtW w I [] w' I' ρ') : Below w.heap.size w w' :=
  ⟨h.os, h.tape, h.output, h.size, fun k hk => h.keep k hk (by simp)⟩

/-- A law that holds, as a call. -/
theorem Pure.callsG {f : FuncId} {args : List PV} {us : List Value} {r : PV} {w : World} (hp : Pure P f args r) (hg : GOk P w fun b => b < w.heap.size) (hus : RelL w (fun b => b < w.heap.size) args us) : Calls P f us.toArray w fun e w' => ∃ u, e = .returned u ∧ Rel w' (fun b => b < w'.heap.size) r u ∧ Below w.heap.size w w' := by
  rw [← callsIn_wide (n := 0)]
  refine CallsIn.mono (hp w _ [] us (Inv.start hg) (RelVL.pure.2 hus)) ?_
  rintro e w' ⟨u, v, J, σ, H', rfl, ⟨rfl, rfl⟩, h3, h4, h5⟩
  exact ⟨u, rfl, Rel.mono (fun b hb => h4.ib b hb) (fun _ _ => rfl) _ _ h5, h3.w.below⟩
end
end Go.AF
end

/-! ## Short forms for the generator: calls, loops, joins. -/
section
set_option linter.unusedVariables false
set_option linter.unusedSimpArgs false
set_option linter.unusedSectionVars false
namespace Go.AF
section
variable {P : Program} {R : Option Nat} {N κ : Nat} {Q Q' : Post} {T T' T2 T3 : Tm} {H H' H2 H3 : List Blk} {o : Oper} {ops : Array Oper} {rest : List Oper}

/-- A call of a pure function, its contract first. -/
theorem OpJ.callP {g : FuncId} {args : List PV} {r : PV} (hp : Pure P g args r) {f : Operand} {xs : Array Operand} {ts : Array TypeId} {fv : V} {vs : List V} (ho : o.op = .call { callee := .value f, args := xs, argTypes := ts }) (hf : ev T f = some fv)
    (hxs : evs T xs.toList = some vs) (hc : callee vs fv = some (g, args.map .p)) (hg : realFn P g = true) : OpJ P N o T H (.p r) H :=
  OpJ.callPure ho hf hxs hc hg hp

/-- Slots without those of a list. -/
def dropT (ds : List Nat) : Tm → Tm
  | [] => []
  | (s, v) :: r => bif ds.any (Nat.beq s) then dropT ds r else (s, v) :: dropT ds r
theorem lk_dropT (ds : List Nat) : ∀ (T : Tm) (s : Nat) (v : V), lk (dropT ds T) s = some v → lk T s = some v
  | [], s, v, h => h
  | (a, x) :: r, s, v, h => by
    simp only [dropT] at h
    cases hd : ds.any (Nat.beq a) with
    | true =>
      rw [hd] at h
      simp only [cond_true] at h
      have ih := lk_dropT ds r s v h
      simp only [lk]
      cases hb : Nat.beq a s with
      | false => exact ih
      | true =>
        exfalso
        have := Nat.eq_of_beq_eq_true hb
        subst this
        have gen : ∀ T : Tm, lk (dropT ds T) a = none := by
          intro T
          induction T with
          | nil => rfl
          | cons y T ih2 =>
            obtain ⟨b, z⟩ := y
            simp only [dropT]
            cases hd2 : ds.any (Nat.beq b) with
            | true => simpa using ih2
            | false =>
              simp only [cond_false, lk]
              cases hb2 : Nat.beq b a with
              | false => exact ih2
              | true =>
                have := Nat.eq_of_beq_eq_true hb2
                subst this
                rw [hd] at hd2; cases hd2
        rw [gen r] at h; cases h
    | false =>
      rw [hd] at h
      simp only [cond_false, lk] at h ⊢
      cases hb : Nat.beq a s with
      | true => rw [hb] at h; exact h
      | false => rw [hb] at h; exact lk_dropT ds r s v h

/-- The back edge, or the way into a loop: some places are kept. -/
theorem To.done (ks : List Nat) {S : Tm} (hk : keepOk κ H.length ks = true) (hS : Sub S (renT (pl ks) T)) (hH : (ks.map fun i => renB (pl ks) (H.getD i .dead)) = H2) : To P κ N T H S H2 := by
  subst hH
  exact (To.keep ks hk).trans (To.sub hS)
theorem Sub.nil {T : Tm} : Sub [] T := fun s v h => by cases h
theorem Sub.cons {s : Nat} {v : V} {S T : Tm} (h : lk T s = some v) (k : Sub S T) : Sub ((s, v) :: S) T := fun s' v' h' => by
  simp only [lk] at h'
  cases hb : Nat.beq s s' with
  | false => rw [hb] at h'; exact k s' v' h'
  | true =>
    rw [hb] at h'
    have := Nat.eq_of_beq_eq_true hb
    subst this
    simp at h'
    subst h'
    exact h

/-- A loop that leaves the own blocks as they are, but for new ones in each round: 'ch g' are the slots that change. -/
theorem AWp.loopK {γ : Type} {c : Code} (ds : List Nat) (ch : γ → Tm) (inv : γ → Prop) (μ : γ → Nat) (g0 : γ) (h0 : inv g0) (hS : Sub (ch g0) T)
    (round : ∀ g, inv g → AWp P R N κ c (AX.then (fun T' H' => ∃ g', inv g' ∧ μ g' < μ g ∧ To P κ N T' H' (ch g' ++ dropT ds T) H) Q) (ch g ++ dropT ds T) H) : AWp P R N κ (.loop c) Q T H := by
  refine AWp.loopT (fun g => ch g ++ dropT ds T) (fun _ => H) inv μ g0 h0 (To.sub ?_) round
  intro s v h
  have app : ∀ (A B : Tm), lk (A ++ B) s = some v → lk A s = some v ∨ lk B s = some v := by
    intro A B
    induction A with
    | nil => intro h; exact .inr h
    | cons x A ih =>
      obtain ⟨a, y⟩ := x
      intro h
      simp only [List.cons_append, lk] at h ⊢
      cases hb : Nat.beq a s with
      | true => rw [hb] at h; exact .inl h
      | false => rw [hb] at h; exact ih h
  rcases app _ _ h with h | h
  · exact hS s v h
  · exact lk_dropT ds T s v h
/-- Where ways meet again. -/
theorem AWp.join {γ : Type} {x y : Code} (S : γ → Tm) (Hs : γ → List Blk) (inv : γ → Prop) (h : AWp P R N κ x (AX.then (fun T' H' => ∃ g, inv g ∧ To P κ N T' H' (S g) (Hs g)) Q) T H) (k : ∀ g, inv g → AWp P R N κ y Q (S g) (Hs g)) : AWp P R N κ (.seq x y) Q T H := by
  refine AWp.seq (AWp.mono h ?_)
  intro e T' H' q
  cases e with
  | normal =>
    obtain ⟨g, h1, h2⟩ := q
    exact AWp.to h2 (k g h1)
  | _ => exact q

/-! ### Renaming leaves immutable data alone -/
theorem renL_pure (σ : Nat → Option Nat) : ∀ xs : List PV, renL σ (xs.map .p) = xs.map .p
  | [] => rfl
  | x :: xs => by simp [renL, renV, renL_pure σ xs]
theorem renL_map {α : Type} (σ : Nat → Option Nat) (f : α → PV) : ∀ xs : List α, renL σ (xs.map fun x => .p (f x)) = xs.map fun x => .p (f x)
  | [] => rfl
  | x :: xs => by simp [renL, renV, renL_map σ f xs]
theorem Fin.oneE {fn : Func} {q : ResultVar} {r r' : PV} (h : fn.results = #[q]) (hr : resOne P T H q (.p r')) (e : r' = r) : Fin P N fn r .ret T H := e ▸ Fin.one h hr
theorem Fin.manyE {fn : Func} {r1 r2 : ResultVar} {rs : List ResultVar} {vs : List V} {xs ys : List PV} (h : fn.results = (r1 :: r2 :: rs).toArray) (hr : ress P T H (r1 :: r2 :: rs) vs) (hv : vs = xs.map .p) (e : xs = ys) : Fin P N fn (.tuple ys) .ret T H := e ▸ Fin.many h hr hv

/-- A function's value, at some arguments. -/
def FPure (P : Program) (f : PV) (args : List PV) (r : PV) : Prop := ∃ g all, callee (args.map .p) (.p f) = some (g, all.map .p) ∧ realFn P g = true ∧ Pure P g all r
theorem OpJ.callF {f : PV} {args : List PV} {r : PV} (hF : FPure P f args r) {fo : Operand} {xs : Array Operand} {ts : Array TypeId} (ho : o.op = .call { callee := .value fo, args := xs, argTypes := ts }) (hf : ev T fo = some (.p f)) (hxs : evs T xs.toList = some (args.map .p)) : OpJ P N o T H (.p r) H := by
  obtain ⟨g, all, h1, h2, h3⟩ := hF
  exact OpJ.callPure ho hf hxs h1 h2 h3

theorem renL_app (σ : Nat → Option Nat) : ∀ xs ys : List V, renL σ (xs ++ ys) = renL σ xs ++ renL σ ys
  | [], ys => rfl
  | x :: xs, ys => by simp [renL, renL_app σ xs ys]
/-- One place more, with nothing in it. -/
theorem To.pad : To P κ N T H T (H ++ [.dead]) := fun w I ρ tmps hi ht => by
  have hE : Ext w I ρ w I (ρ ++ [w.heap.size]) := ⟨⟨rfl, rfl, rfl, Nat.le_refl _, fun _ _ _ => rfl, fun _ _ h => h, fun _ h => h, fun _ _ => rfl, fun _ h => .inl h, fun _ h => .inl h, fun _ h => h, fun _ _ h => h, fun k hk => by
    rcases List.mem_append.1 hk with h | h
    · exact .inl h
    · simp at h; subst h; exact .inr (Nat.le_refl _)⟩, ⟨_, rfl⟩⟩
  have old : ∀ (j k : Nat) (blk : Blk), (ρ ++ [w.heap.size])[j]? = some k → (H ++ [Blk.dead])[j]? = some blk → blk.live = true → ρ[j]? = some k ∧ H[j]? = some blk := fun j k blk h1 h2 h3 => by
    rcases get_append_one h2 with ⟨h4, h5⟩ | ⟨h4, h5⟩
    · rw [List.getElem?_append_left (by rw [hi.len]; exact h4)] at h1
      exact ⟨h1, h5⟩
    · subst h5; cases h3
  refine ⟨I, ρ ++ [w.heap.size], hE.w, ⟨by simp [hi.len], fun j k blk h1 h2 h3 => ?_, hi.ib, fun j k blk h1 h2 h3 => ?_, fun j j' k x y h1 h2 h3 h4 h5 h6 => ?_, fun j k blk h1 h2 => ?_, hi.gl⟩, ht.ext hE, fun L hL _ => hL.trans ⟨_, rfl⟩⟩
  · obtain ⟨h4, h5⟩ := old j k blk h1 h2 h3
    exact hi.bnd j k blk h4 h5 h3
  · obtain ⟨h4, h5⟩ := old j k blk h1 h2 h3
    exact hi.live j k blk h4 h5 h3
  · obtain ⟨h7, h8⟩ := old j k x h1 h3 h5
    obtain ⟨h9, h10⟩ := old j' k y h2 h4 h6
    exact hi.dist j j' k x y h7 h9 h8 h10 h5 h6
  · cases hl : blk.live with
    | false => exact RelB.dead_of hl
    | true =>
      obtain ⟨h4, h5⟩ := old j k blk h1 h2 hl
      exact RelB.ext hE hi h4 h5 rfl

end
end Go.AF
end

/-! ## Loops of a known number of rounds; more short forms. -/
section
set_option linter.unusedVariables false
set_option linter.unusedSimpArgs false
set_option linter.unusedSectionVars false
namespace Go.AF
section
variable {P : Program} {R : Option Nat} {N κ : Nat} {Q Q' : Post} {T T' T2 T3 : Tm} {H H' H2 H3 : List Blk} {o : Oper} {ops : Array Oper} {rest : List Oper}

theorem AWp.condT {c : Operand} {x y : Code} (hc : ev T c = some (.p (.bool true))) (ht : AWp P R N κ x Q T H) : AWp P R N κ (.cond c x y) Q T H :=
  AWp.cond true hc (fun _ => ht) (fun h => by cases h)
theorem AWp.condF {c : Operand} {x y : Code} (hc : ev T c = some (.p (.bool false))) (hf : AWp P R N κ y Q T H) : AWp P R N κ (.cond c x y) Q T H :=
  AWp.cond false hc (fun h => by cases h) (fun _ => hf)
/-- The state, written anew: some places are kept. -/
theorem AWp.norm (ks : List Nat) (T2 : Tm) (H2 : List Blk) {c : Code} (hk : keepOk κ H.length ks = true) (hS : Sub T2 (renT (pl ks) T)) (hH : (ks.map fun i => renB (pl ks) (H.getD i .dead)) = H2) (h : AWp P R N κ c Q T2 H2) : AWp P R N κ c Q T H :=
  AWp.to (To.done ks hk hS hH) h
theorem u64ok {n : Int} (h : 0 ≤ n ∧ n ≤ 18446744073709551615) : IntKind.u64.wrap n = n := by
  have e : IntKind.u64.wrap n = n % 18446744073709551616 := by simp [IntKind.wrap, IntKind.bits, IntKind.signed]
  rw [e]; omega
end
end Go.AF
end

/-! ## Regions that draw their order, in which one own block is laid at some moment. -/
section
set_option linter.unusedVariables false
set_option linter.unusedSimpArgs false
set_option linter.unnecessarySimpa false
namespace Go.AF

section
variable {P : Program} {R : Option Nat} {N κ : Nat} {Q : Post} {T : Tm} {H H2 : List Blk} {o : Oper} {ops : Array Oper} {K : Tm → Prop} {rest : List Oper} {b : Bool}
section
variable {m : Nat} {l : List Oper} {vs : Nat → V}
end
end
end Go.AF
end

/-! ## Regions that draw their order, in which one own block is laid, and then written, at some moments. -/
section
set_option linter.unusedVariables false
set_option linter.unusedSimpArgs false
set_option linter.unnecessarySimpa false
namespace Go.AF

section
variable {P : Program} {R : Option Nat} {N κ : Nat} {Q : Post} {T : Tm} {H H1 H2 : List Blk} {o : Oper} {ops : Array Oper} {K : Tm → Prop} {rest : List Oper} {b : Bool} {p : Option Nat}
section
variable {m : Nat} {l : List Oper} {vs : Nat → V}
end
end

/-! ### The same, the blocks found on the way -/
inductive PhC where
  | none
  | laid (d : Nat) (blk : Blk)
  | put (blk : Blk)
section
variable {P : Program} {R : Option Nat} {N κ : Nat} {Q : Post} {T : Tm} {H : List Blk} {o : Oper} {ops : Array Oper} {K : Blk → Tm → Prop} {rest : List Oper} {ph : PhC} {l : List Oper}
end
end Go.AF
end

/-! ## More short forms: shadowed slots; what any length of cells is. -/
section
set_option linter.unusedVariables false
set_option linter.unusedSimpArgs false
set_option linter.unusedSectionVars false
namespace Go.AF
section
variable {P : Program} {R : Option Nat} {N κ : Nat} {Q Q' : Post} {T T' T2 T3 : Tm} {H H' H2 H3 : List Blk}
end
theorem flat_len {α : Type} {f : α → List PV} {c : Nat} (h : ∀ x, (f x).length = c) : ∀ xs : List α, (xs.flatMap f).length = xs.length * c
  | [] => by simp
  | x :: xs => by rw [List.flatMap_cons, List.length_append, flat_len h xs, h, List.length_cons, Nat.add_mul]; omega
end Go.AF
end

/-! ## Own rows of elements of one length, at places that are not known. -/
section
set_option linter.unusedVariables false
set_option linter.unusedSimpArgs false
set_option linter.unusedSectionVars false
namespace Go.AF
section
variable {P : Program} {R : Option Nat} {N κ : Nat} {Q Q' : Post} {T T' T2 T3 : Tm} {H H' H2 H3 : List Blk} {o : Oper} {ops : Array Oper} {rest : List Oper}

/-- What was appended to, by what is in it; all else stays. -/
theorem To.accD (s i n : Nat) {xs : List PV} {e : TypeId} (hs : lk T s = some (accV i n)) (hH : H[i]? = some (accB (xs.map .p) e n)) (h0 : n = 0 → xs = []) : To P κ N T H ((s, .p (.is xs n)) :: dropT [s] T) (H.set i .dead) := by
  intro w I ρ tmps hi ht
  obtain ⟨I1, ρ1, h1, h2, h3, h4⟩ := To.acc (P := P) (κ := κ) (N := N) s i n hs hH h0 w I ρ tmps hi ht
  cases n with
  | zero =>
    have h := h0 rfl
    subst h
    have e1 : H.set i .dead = H := by
      apply List.ext_getElem?
      intro j
      rw [List.getElem?_set]
      split
      · rename_i hij
        subst hij
        split
        · exact hH.symm
        · rename_i h; rw [List.getElem?_eq_none (by omega)]
      · rfl
    rw [e1]
    refine ⟨I, ρ, ExtW.refl _ _ _, hi, ⟨ht.size, fun s' v hv => ?_⟩, fun _ h _ => h⟩
    simp only [lk] at hv
    cases hb : Nat.beq s s' with
    | false => rw [hb] at hv; exact ht.at_ s' v (lk_dropT [s] T s' v hv)
    | true =>
      rw [hb] at hv
      have := Nat.eq_of_beq_eq_true hb
      subst this
      simp at hv
      subst hv
      exact .inl ⟨⟨_, _, ht.at_ s _ hs⟩, rfl⟩
  | succ n =>
    obtain ⟨I', k1, k2, k3⟩ := frz_step (i := i) (xs := xs) hi (by rw [show H[i]? = some (.row (xs.map .p) e) from hH]; rfl) ht
    refine ⟨I', ρ, k1.w, k2, ⟨ht.size, fun s' v hv => ?_⟩, fun _ h _ => h⟩
    simp only [lk] at hv
    cases hb : Nat.beq s s' with
    | false => rw [hb] at hv; exact (ht.at_ s' v (lk_dropT [s] T s' v hv)).ext k1
    | true =>
      rw [hb] at hv
      have := Nat.eq_of_beq_eq_true hb
      subst this
      simp at hv
      subst hv
      have hm : ∀ T : Tm, lk T s = some (V.row i (n + 1)) → lk (frzT i xs T) s = some (frzV i xs (V.row i (n + 1))) := fun T hT => by
        rw [lk_frzT, hT]; rfl
      have := k3.at_ s _ (hm T hs)
      simpa [frzV] using this
/-- An element of an own row. -/
theorem OpJ.indexRow {x y : Operand} {t : TypeId} {kd : IntKind} {sz i len k : Nat} (ho : o.op = .indexAddr t x y) (hx : ev T x = some (.row i len)) (hy : ev T y = some (.p (.int kd (k : Int)))) (ht : isSl P t = true) (he : elI P t = some sz) (hk : k < len) : OpJ P N o T H (.ptr i (k * sz)) H :=
  OpJ.indexSlice ho hx hy ht he (fun _ _ h => by cases h) (by omega) (by simp [aindex, hk])
theorem setAt_set : ∀ (vs cs : List V) (k : Nat), k + vs.length ≤ cs.length → setAt cs k vs = cs.take k ++ vs ++ cs.drop (k + vs.length)
  | [], cs, k, h => by simp [setAt]
  | v :: vs, cs, k, h => by
    simp only [List.length_cons] at h
    simp only [setAt]
    rw [setAt_set vs (cs.set k v) (k + 1) (by simp; omega)]
    have hk : k < cs.length := by omega
    rw [← List.take_append_getElem (l := cs.set k v) (i := k) (by simpa using hk)]
    simp only [List.getElem_set_self, List.length_cons]
    rw [List.take_set_of_le (Nat.le_refl _), List.drop_set_of_lt (by omega), show k + 1 + vs.length = k + (vs.length + 1) by omega]
    simp
theorem flat_set {α : Type} {f : α → List PV} {c : Nat} (hf : ∀ x, (f x).length = c) : ∀ (xs : List α) (k : Nat) (z : α), k < xs.length → (xs.set k z).flatMap f = (xs.flatMap f).take (k * c) ++ f z ++ (xs.flatMap f).drop (k * c + c)
  | x :: xs, 0, z, _ => by
    simp only [List.set_cons_zero, List.flatMap_cons, Nat.zero_mul, List.take_zero, List.nil_append, Nat.zero_add]
    rw [List.drop_append_of_le_length (by rw [hf]; exact Nat.le_refl _), List.drop_of_length_le (by rw [hf]; exact Nat.le_refl _)]
    rfl
  | x :: xs, k + 1, z, h => by
    simp only [List.set_cons_succ, List.flatMap_cons]
    rw [flat_set hf xs k z (by simpa using h)]
    have e : (k + 1) * c = (f x).length + k * c := by rw [hf, Nat.add_mul]; omega
    rw [e, List.take_length_add_append, Nat.add_assoc, List.drop_length_add_append]
    simp only [List.append_assoc]
/-- Cells of one element are written anew. -/
theorem setAt_flat {α : Type} {f : α → List PV} {c : Nat} (hf : ∀ x, (f x).length = c) (xs : List α) (k j : Nat) (z : α) (ws : List PV) (hk : k < xs.length) (hj : j + ws.length ≤ c) (hz : f z = (f xs[k]).take j ++ ws ++ (f xs[k]).drop (j + ws.length)) :
    setAt ((xs.flatMap f).map .p) (k * c + j) (ws.map .p) = ((xs.set k z).flatMap f).map .p := by
  have hl : (xs.flatMap f).length = xs.length * c := flat_len hf xs
  have hb : k * c + c ≤ xs.length * c := by
    have := Nat.mul_le_mul_right c (show k + 1 ≤ xs.length from hk)
    rw [Nat.add_mul] at this
    omega
  have hw := flat_win hf xs k hk
  rw [setAt_set _ _ _ (by simp only [List.length_map, hl]; omega), flat_set hf xs k z hk, hz]
  simp only [List.length_map, ← List.map_take, ← List.map_drop, ← List.map_append]
  congr 1
  have e1 : (xs.flatMap f).take (k * c + j) = (xs.flatMap f).take (k * c) ++ (f xs[k]).take j := by
    rw [← hw, List.take_add, List.take_take]
    rw [show min j c = j by omega]
  have e2 : (xs.flatMap f).drop (k * c + j + ws.length) = (f xs[k]).drop (j + ws.length) ++ (xs.flatMap f).drop (k * c + c) := by
    rw [← hw]
    have : (xs.flatMap f).drop (k * c) = ((xs.flatMap f).drop (k * c)).take c ++ (xs.flatMap f).drop (k * c + c) := by
      rw [← List.drop_drop, List.take_append_drop]
    rw [Nat.add_assoc, ← List.drop_drop, this, List.drop_append_of_le_length (by rw [List.length_take, List.length_drop, hl]; omega)]
    rw [← this]
  rw [e1, e2]
  simp only [List.append_assoc]
/-- A store to an element of an own row. -/
theorem OpJ.storeRow {α : Type} {f : α → List PV} {c k j n i off : Nat} {b : Bool} {xs : List α} {z : α} {ws : List PV} {e : TypeId} {x y : Operand} {t : TypeId} {v : V} (ho : o.op = .store t x y) (hx : ev T x = some (.ptr i off)) (hy : ev T y = some v) (hk : cellsOk v = true) (h1 : (cellsV v).all oneV = true)
    (ht : tyI P t = some (b, n)) (hn : (cellsV v).length = n) (hv : cellsV v = ws.map .p) (hH : H[i]? = some (.row ((xs.flatMap f).map .p) e)) (hoff : off = k * c + j) (hf : ∀ x, (f x).length = c) (hkx : k < xs.length) (hj : j + ws.length ≤ c)
    (hz : f z = (f xs[k]).take j ++ ws ++ (f xs[k]).drop (j + ws.length)) : OpJ P N o T H .top (H.set i (.row (((xs.set k z).flatMap f).map .p) e)) := by
  refine OpJ.store ho hx hy hk h1 ht hn ?_
  have hl : (xs.flatMap f).length = xs.length * c := flat_len hf xs
  have hb : k * c + c ≤ xs.length * c := by
    have := Nat.mul_le_mul_right c (show k + 1 ≤ xs.length from hkx)
    rw [Nat.add_mul] at this
    omega
  subst hoff
  simp only [astore, hH, hv]
  rw [if_pos (by simp only [List.length_map, hl]; omega), setAt_flat hf xs k j z ws hkx hj hz]
/-- A load of a part of an element of an own block. -/
theorem OpJ.loadFlat {α : Type} {f : α → List PV} {c k j n i off : Nat} {b : Bool} {xs : List α} {blk : Blk} {x : Operand} {t : TypeId} {v : PV} (ho : o.op = .load t x) (hx : ev T x = some (.ptr i off)) (ht : tyI P t = some (b, n)) (hH : H[i]? = some blk) (hc : blkCells (some blk) = some ((xs.flatMap f).map .p)) (hoff : off = k * c + j)
    (hf : ∀ x, (f x).length = c) (hkx : k < xs.length) (hj : j + (if b then n else 1) ≤ c) (hv : (if b then PV.agg (((f xs[k]).drop j).take n) else ((f xs[k])[j]?).getD .nilPtr) = v) : OpJ P N o T H (.p v) H := by
  have hl : (xs.flatMap f).length = xs.length * c := flat_len hf xs
  have hb : k * c + c ≤ xs.length * c := by
    have := Nat.mul_le_mul_right c (show k + 1 ≤ xs.length from hkx)
    rw [Nat.add_mul] at this
    omega
  have hw := flat_win hf xs k hkx
  subst hoff
  refine OpJ.load ho hx ht ?_
  cases b with
  | false =>
    simp only [Bool.false_eq_true, if_false] at hj hv
    simp only [aload, hH, hc, Bool.false_eq_true, if_false]
    have hlt : k * c + j < (xs.flatMap f).length := by rw [hl]; omega
    rw [List.getElem?_map, List.getElem?_eq_getElem hlt]
    have : (f xs[k])[j]? = some (xs.flatMap f)[k * c + j] := by
      rw [← hw, List.getElem?_take, if_pos (by omega), List.getElem?_drop, List.getElem?_eq_getElem hlt]
    rw [this] at hv
    simp at hv
    simp [hv]
  | true =>
    simp only [if_true] at hj hv
    simp only [aload, hH, hc, if_true]
    rw [if_pos (by simp only [List.length_map, hl]; omega)]
    have : (((xs.flatMap f).map V.p).drop (k * c + j)).take n = (((f xs[k]).drop j).take n).map .p := by
      rw [← List.map_drop, ← List.map_take, ← hw, List.drop_take, List.take_take, List.drop_drop, show min n (c - j) = n by omega]
    rw [this]
    simp only [aggOf, allP_map, hv]
/-- The same, to an own row that was there whole. -/
theorem asrc_is {xs : List PV} {n sz : Nat} (h : xs.length = n * sz) : asrc H sz (.p (.is xs n)) = some (xs.map .p, n) := by simp [asrc, h]
end
end Go.AF
end

/-! ## Bits of numbers that are not negative. -/
section
set_option linter.unusedVariables false
set_option linter.unusedSimpArgs false
set_option linter.unusedSectionVars false
namespace Go.AF
theorem ofInt_nat (w a : Nat) : BitVec.ofInt w (a : Int) = BitVec.ofNat w a := by
  apply BitVec.eq_of_toNat_eq
  simp [BitVec.toNat_ofInt]
theorem wrap_lt {k : IntKind} {n : Nat} (h : (n : Int) ≤ k.max) (h0 : k.min ≤ 0) : k.wrap (n : Int) = n := by
  cases k <;> simp [IntKind.wrap, IntKind.bits, IntKind.signed, IntKind.max] at h ⊢ <;> omega
section
variable {P : Program} {R : Option Nat} {N κ : Nat} {Q Q' : Post} {T T' T2 T3 : Tm} {H H' H2 H3 : List Blk} {o : Oper} {ops : Array Oper} {rest : List Oper}
theorem max_lt (k : IntKind) : k.max < 2 ^ k.bits := by cases k <;> decide
/-- 'x & y' of numbers that are not negative. -/
theorem OpJ.andN {x y : Operand} {t t' : TypeId} {k : IntKind} (a b : Nat) (ho : o.op = .binOp .and t x y t') (hx : ev T x = some (.p (.int k (a : Int)))) (hy : ev T y = some (.p (.int k (b : Int)))) (ha : (a : Int) ≤ k.max) (hb : (b : Int) ≤ k.max) : OpJ P N o T H (.p (.int k ((a &&& b : Nat) : Int))) H :=
  OpJ.bits ho (.inl rfl) hx hy fun w => by
    have hk := max_lt k
    have ha' : a < 2 ^ k.bits := by have : (a : Int) < ((2 ^ k.bits : Nat) : Int) := by simpa using (by omega : (a : Int) < 2 ^ k.bits)
                                    omega
    have hb' : b < 2 ^ k.bits := by have : (b : Int) < ((2 ^ k.bits : Nat) : Int) := by simpa using (by omega : (b : Int) < 2 ^ k.bits)
                                    omega
    have h1 : (BitVec.ofInt k.bits (a : Int) &&& BitVec.ofInt k.bits (b : Int)).toNat = a &&& b := by
      rw [ofInt_nat, ofInt_nat, BitVec.toNat_and, BitVec.toNat_ofNat, BitVec.toNat_ofNat, Nat.mod_eq_of_lt ha', Nat.mod_eq_of_lt hb']
    have h2 : ((a &&& b : Nat) : Int) ≤ k.max := by have := @Nat.and_le_left a b; omega
    have h3 : k.min ≤ 0 := by cases k <;> decide
    simp only [Op.intBits, h1, wrap_lt h2 h3]
    rfl
/-- 'x | y' of numbers that are not negative. -/
theorem OpJ.orN {x y : Operand} {t t' : TypeId} {k : IntKind} (a b : Nat) (ho : o.op = .binOp .or t x y t') (hx : ev T x = some (.p (.int k (a : Int)))) (hy : ev T y = some (.p (.int k (b : Int)))) (ha : (a : Int) ≤ k.max) (hb : (b : Int) ≤ k.max) (hc : ((a ||| b : Nat) : Int) ≤ k.max) : OpJ P N o T H (.p (.int k ((a ||| b : Nat) : Int))) H :=
  OpJ.bits ho (.inr (.inl rfl)) hx hy fun w => by
    have hk := max_lt k
    have ha' : a < 2 ^ k.bits := by have : (a : Int) < ((2 ^ k.bits : Nat) : Int) := by simpa using (by omega : (a : Int) < 2 ^ k.bits)
                                    omega
    have hb' : b < 2 ^ k.bits := by have : (b : Int) < ((2 ^ k.bits : Nat) : Int) := by simpa using (by omega : (b : Int) < 2 ^ k.bits)
                                    omega
    have h1 : (BitVec.ofInt k.bits (a : Int) ||| BitVec.ofInt k.bits (b : Int)).toNat = a ||| b := by
      rw [ofInt_nat, ofInt_nat, BitVec.toNat_or, BitVec.toNat_ofNat, BitVec.toNat_ofNat, Nat.mod_eq_of_lt ha', Nat.mod_eq_of_lt hb']
    have h3 : k.min ≤ 0 := by cases k <;> decide
    simp only [Op.intBits, h1, wrap_lt hc h3]
    rfl
/-- 'x >> n' of a number that is not negative. -/
theorem OpJ.shrN {x y : Operand} {t t' : TypeId} {k k' : IntKind} (a n : Nat) (ho : o.op = .binOp .shr t x y t') (hx : ev T x = some (.p (.int k (a : Int)))) (hy : ev T y = some (.p (.int k' (n : Int)))) (ha : (a : Int) ≤ k.max) : OpJ P N o T H (.p (.int k ((a / 2 ^ n : Nat) : Int))) H := by
  refine OpJ.shr ho hx hy (by omega) ?_
  have e : ∀ m : Nat, (2 : Int) ^ m = ((2 ^ m : Nat) : Int) := fun m => by simp
  rw [Int.toNat_natCast, e, Int.fdiv_eq_ediv_of_nonneg _ (Int.natCast_nonneg _)]
  have hk := max_lt k
  have ha' : a < 2 ^ k.bits := by have : (a : Int) < ((2 ^ k.bits : Nat) : Int) := by simpa using (by omega : (a : Int) < 2 ^ k.bits)
                                  omega
  rw [← Int.natCast_ediv]
  congr 1
  by_cases h : n ≤ k.bits
  · rw [Nat.min_eq_left h]
  · rw [Nat.min_eq_right (by omega)]
    rw [Nat.div_eq_of_lt ha', Nat.div_eq_of_lt]
    exact Nat.lt_of_lt_of_le ha' (Nat.pow_le_pow_right (by omega) (by omega))
/-- '1 << n', where it fits. -/
theorem OpJ.shlN {x y : Operand} {t t' : TypeId} {k k' : IntKind} (a n : Nat) (ho : o.op = .binOp .shl t x y t') (hx : ev T x = some (.p (.int k (a : Int)))) (hy : ev T y = some (.p (.int k' (n : Int)))) (hn : n ≤ k.bits) (hc : ((a * 2 ^ n : Nat) : Int) ≤ k.max) : OpJ P N o T H (.p (.int k ((a * 2 ^ n : Nat) : Int))) H := by
  refine OpJ.shl ho hx hy (by omega) ?_
  rw [Int.toNat_natCast, Nat.min_eq_left hn]
  have e : (a : Int) * 2 ^ n = ((a * 2 ^ n : Nat) : Int) := by simp
  rw [e]
  exact wrap_lt hc (by cases k <;> decide)
end
end Go.AF
end
end
