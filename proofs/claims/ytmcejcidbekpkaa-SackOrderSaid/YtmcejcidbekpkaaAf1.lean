/-
  Abstract values and what they say of a world: the base of the layer AF. No condition; generic over any program.
-/
import Derived.TacticsIn
import Derived.OrdersIn
import Derived.RangeFuncLeaves
import Derived.RangeFuncRecord
import Derived.Laws.World
namespace Go.AF

/-- Immutable data, by content. -/
inductive PV where
  | bool (b : Bool)
  | int (k : IntKind) (n : Int)
  | str (s : ByteArray)
  | nilPtr | nilSlice | nilMap | nilFunc | nilIface
  | ip (cs : List PV) (off : Nat)
  | is (cs : List PV) (len : Nat)
  | im (ks vs : List PV)
  | func (fn : Fn) (first captured : List PV)
  | iface (t : TypeId) (v : PV)
  | agg (cs : List PV)
  | tuple (vs : List PV)

/-- A value of a walk: immutable data, or a reference to an own block (by its place in the list of own blocks). -/
inductive V where
  | p (x : PV)
  | ptr (i off : Nat)
  | row (i len : Nat)
  | sl (i off len : Nat)
  | map (i : Nat)
  | func (fn : Fn) (first captured : List V)
  | iface (t : TypeId) (v : V)
  | agg (cs : List V)
  | tuple (vs : List V)
  | opt (g : Bool) (v : V)
  | top

/-- What the record of a range over a function holds. -/
structure LRec where
  l : Nat
  tmps : Array Value
  T : List (Nat × V)
  ps : Array Tmp
  asg : Code
  body : Code

inductive Blk where
  | cells (cs : List V) (e : TypeId)
  | row (cs : List V) (e : TypeId)
  | map (ks vs : List V)
  | strIter (s : ByteArray) (pos : Nat)
  | mapIter (ks vs : List PV) (last : Option (PV × PV))
  | loop (r : LRec) (st : LoopState) (pe : Option Code)
  | dead

def Blk.live : Blk → Bool
  | .dead => false
  | _ => true

/-- What a frame's slot holds. -/
def lk : List (Nat × V) → Nat → Option V
  | [], _ => none
  | (a, v) :: r, s => bif Nat.beq a s then some v else lk r s

/-- Stamps of a map's entries: distinct, and below the clock. -/
def BornOk (es : Array MapEntry) (clock : Nat) : Prop := (es.toList.map (·.born)).Nodup ∧ ∀ e ∈ es.toList, e.born < clock

section
variable (w : World) (I : Nat → Prop)
mutual
def Rel : PV → Value → Prop
  | .bool b, u => u = .bool b
  | .int k n, u => u = .int k n
  | .str s, u => u = .string s
  | .nilPtr, u => u = .pointer none
  | .nilSlice, u => u = .slice none 0 0
  | .nilMap, u => u = .map none
  | .nilFunc, u => u = .nilFunc
  | .nilIface, u => u = .nilIface
  | .ip cs off, u => ∃ b o, I b ∧ u = .pointer (some ⟨b, o + off, none⟩) ∧ RelAt cs b o
  | .is cs len, u => ((∃ a cap, u = .slice a 0 cap) ∧ len = 0) ∨ ∃ b o cap, (cs ≠ [] → I b) ∧ len ≤ cap ∧ u = .slice (some ⟨b, o, none⟩) len cap ∧ RelAt cs b o
  | .im ks vs, u => ∃ r es clock, I r ∧ u = .map (some r) ∧ w.heap[r]? = some (.map es clock) ∧ RelL ks (es.toList.map (·.key)) ∧ RelL vs (es.toList.map (·.val)) ∧ BornOk es clock
  | .func fn fi ca, u => ∃ us vs, u = .func fn us vs ∧ RelL fi us.toList ∧ RelL ca vs.toList
  | .iface t v, u => ∃ x, u = .iface t x ∧ Rel v x
  | .agg cs, u => ∃ us, u = .agg us ∧ RelL cs us.toList
  | .tuple cs, u => ∃ us, u = .tuple us ∧ RelL cs us.toList
def RelL : List PV → List Value → Prop
  | [], us => us = []
  | c :: cs, us => ∃ u us', us = u :: us' ∧ Rel c u ∧ RelL cs us'
def RelAt : List PV → Nat → Nat → Prop
  | [], _, _ => True
  | c :: cs, b, o => (∃ u, w.cell? ⟨b, o, none⟩ = some u ∧ Rel c u) ∧ RelAt cs b (o + 1)
end
end

section
variable (P : Program) (w : World) (I : Nat → Prop) (ρ : List Nat)
mutual
def RelV : V → Value → Prop
  | .p x, u => Rel w I x u
  | .ptr i off, u => ∃ b, ρ[i]? = some b ∧ u = .pointer (some ⟨b, off, none⟩)
  | .row i len, u => ∃ b e cap, ρ[i]? = some b ∧ u = .slice (some ⟨b, 0, none⟩) len cap ∧ w.shape? b = some (e, cap * P.cellsOf e) ∧ len ≤ cap
  | .sl i off len, u => ∃ b cap, ρ[i]? = some b ∧ u = .slice (some ⟨b, off, none⟩) len cap ∧ len ≤ cap
  | .map i, u => ∃ b, ρ[i]? = some b ∧ u = .map (some b)
  | .func fn fi ca, u => ∃ us vs, u = .func fn us vs ∧ RelVL fi us.toList ∧ RelVL ca vs.toList
  | .iface t v, u => ∃ x, u = .iface t x ∧ RelV v x
  | .agg cs, u => ∃ us, u = .agg us ∧ RelVL cs us.toList
  | .tuple cs, u => ∃ us, u = .tuple us ∧ RelVL cs us.toList
  | .opt g v, u => (g = true → RelV v u) ∧ (g = false → u = undef)
  | .top, _ => True
def RelVL : List V → List Value → Prop
  | [], us => us = []
  | c :: cs, us => ∃ u us', us = u :: us' ∧ RelV c u ∧ RelVL cs us'
end

/-- What an own block holds. -/
def RelB : Blk → Nat → Prop
  | .cells cs e, b => ∃ arr, w.heap[b]? = some (.cells arr e (0, 0)) ∧ RelVL P w I ρ cs arr.toList
  | .row cs e, b => ∃ arr, w.heap[b]? = some (.cells arr e (0, 0)) ∧ cs.length ≤ arr.size ∧ RelVL P w I ρ cs (arr.toList.take cs.length)
  | .map ks vs, b => ∃ es clock, w.heap[b]? = some (.map es clock) ∧ RelVL P w I ρ ks (es.toList.map (·.key)) ∧ RelVL P w I ρ vs (es.toList.map (·.val)) ∧ BornOk es clock
  | .strIter s pos, b => w.heap[b]? = some (.stringIter s pos)
  | .mapIter ks vs last, b => (ks = [] ∧ vs = [] ∧ last = none ∧ w.heap[b]? = some (.mapIter none 0 #[] 0)) ∨
      ∃ r es clock seen, w.heap[b]? = some (.mapIter (some r) clock seen clock) ∧ I r ∧ w.heap[r]? = some (.map es clock) ∧ BornOk es clock ∧
        RelL w I ks ((es.toList.filter fun e => !seen.contains e.born).map (·.key)) ∧ RelL w I vs ((es.toList.filter fun e => !seen.contains e.born).map (·.val)) ∧
        ∀ k v, last = some (k, v) → ∃ (e : MapEntry) (pre : Array Nat), e ∈ es.toList ∧ seen = pre.push e.born ∧ Rel w I k e.key ∧ Rel w I v e.val
  | .loop r st pe, b => b = r.l ∧ (∃ fn d, w.heap[b]? = some (.loop { state := st, pending := pe, fn, tmps := r.tmps, params := r.ps, assign := r.asg, body := r.body, defers := d })) ∧ ∀ s v, lk r.T s = some v → RelV P w I ρ v (r.tmps.getD s undef)
  | .dead, _ => True
end

theorem pre_get {α : Type} {l l' : List α} (h : l <+: l') {i : Nat} {b : α} (hb : l[i]? = some b) : l'[i]? = some b := by
  obtain ⟨t, rfl⟩ := h
  rw [List.getElem?_append_left (List.getElem?_eq_some_iff.1 hb).1]
  exact hb
theorem cell_of_block {w w' : World} {b o : Nat} {s : Option Nat} (h : w'.heap[b]? = w.heap[b]?) : w'.cell? ⟨b, o, s⟩ = w.cell? ⟨b, o, s⟩ := by
  simp only [World.cell?, h]
theorem frozen_of_block {w w' : World} {b o : Nat} {s : Option Nat} (h : w'.heap[b]? = w.heap[b]?) : w'.frozen? ⟨b, o, s⟩ = w.frozen? ⟨b, o, s⟩ := by
  simp only [World.frozen?, h]

/-! ### Moving to a later world -/
mutual
theorem Rel.mono {w w' : World} {I I' : Nat → Prop} (hI : ∀ b, I b → I' b) (hw : ∀ b, I b → w'.heap[b]? = w.heap[b]?) : ∀ (x : PV) (u : Value), Rel w I x u → Rel w' I' x u
  | .bool _, _, h => by simpa [Rel] using h
  | .int _ _, _, h => by simpa [Rel] using h
  | .str _, _, h => by simpa [Rel] using h
  | .nilPtr, _, h => by simpa [Rel] using h
  | .nilSlice, _, h => by simpa [Rel] using h
  | .nilMap, _, h => by simpa [Rel] using h
  | .nilFunc, _, h => by simpa [Rel] using h
  | .nilIface, _, h => by simpa [Rel] using h
  | .ip cs off, u, h => by
    obtain ⟨b, o, hb, hu, hc⟩ := h
    exact ⟨b, o, hI b hb, hu, RelAt.mono hI hw cs b o (fun _ => hb) hc⟩
  | .is cs len, u, h => by
    rcases h with h | ⟨b, o, cap, hb, hl, hu, hc⟩
    · exact .inl h
    · exact .inr ⟨b, o, cap, fun hn => hI b (hb hn), hl, hu, RelAt.mono hI hw cs b o hb hc⟩
  | .im ks vs, u, h => by
    obtain ⟨r, es, clock, hr, hu, hh, hk, hv, hb⟩ := h
    exact ⟨r, es, clock, hI r hr, hu, by rw [hw r hr]; exact hh, RelL.mono hI hw ks _ hk, RelL.mono hI hw vs _ hv, hb⟩
  | .func fn fi ca, u, h => by
    obtain ⟨us, vs, hu, h1, h2⟩ := h
    exact ⟨us, vs, hu, RelL.mono hI hw fi _ h1, RelL.mono hI hw ca _ h2⟩
  | .iface t v, u, h => by
    obtain ⟨x, hu, h1⟩ := h
    exact ⟨x, hu, Rel.mono hI hw v x h1⟩
  | .agg cs, u, h => by
    obtain ⟨us, hu, h1⟩ := h
    exact ⟨us, hu, RelL.mono hI hw cs _ h1⟩
  | .tuple cs, u, h => by
    obtain ⟨us, hu, h1⟩ := h
    exact ⟨us, hu, RelL.mono hI hw cs _ h1⟩
theorem RelL.mono {w w' : World} {I I' : Nat → Prop} (hI : ∀ b, I b → I' b) (hw : ∀ b, I b → w'.heap[b]? = w.heap[b]?) : ∀ (xs : List PV) (us : List Value), RelL w I xs us → RelL w' I' xs us
  | [], us, h => by simpa [RelL] using h
  | c :: cs, us, h => by
    obtain ⟨u, us', hu, h1, h2⟩ := h
    exact ⟨u, us', hu, Rel.mono hI hw c u h1, RelL.mono hI hw cs us' h2⟩
theorem RelAt.mono {w w' : World} {I I' : Nat → Prop} (hI : ∀ b, I b → I' b) (hw : ∀ b, I b → w'.heap[b]? = w.heap[b]?) : ∀ (xs : List PV) (b o : Nat), (xs ≠ [] → I b) → RelAt w I xs b o → RelAt w' I' xs b o
  | [], _, _, _, _ => by simp [RelAt]
  | c :: cs, b, o, hb, h => by
    obtain ⟨⟨u, hu, h1⟩, h2⟩ := h
    have hbb := hb (by simp)
    exact ⟨⟨u, (cell_of_block (hw b hbb)).trans hu, Rel.mono hI hw c u h1⟩, RelAt.mono hI hw cs b (o + 1) (fun _ => hbb) h2⟩
end

mutual
theorem RelV.mono {P : Program} {w w' : World} {I I' : Nat → Prop} {ρ ρ' : List Nat} (hI : ∀ b, I b → I' b) (hw : ∀ b, I b → w'.heap[b]? = w.heap[b]?) (hρ : ρ <+: ρ')
    (hs : ∀ b ∈ ρ, ∀ s, w.shape? b = some s → w'.shape? b = some s) : ∀ (x : V) (u : Value), RelV P w I ρ x u → RelV P w' I' ρ' x u
  | .p x, u, h => Rel.mono hI hw x u h
  | .ptr i off, u, h => by
    obtain ⟨b, hb, hu⟩ := h
    exact ⟨b, pre_get hρ hb, hu⟩
  | .row i len, u, h => by
    obtain ⟨b, e, cap, hb, hu, hsh, hl⟩ := h
    exact ⟨b, e, cap, pre_get hρ hb, hu, hs b (List.mem_of_getElem? hb) _ hsh, hl⟩
  | .sl i off len, u, h => by
    obtain ⟨b, cap, hb, hu⟩ := h
    exact ⟨b, cap, pre_get hρ hb, hu⟩
  | .map i, u, h => by
    obtain ⟨b, hb, hu⟩ := h
    exact ⟨b, pre_get hρ hb, hu⟩
  | .func fn fi ca, u, h => by
    obtain ⟨us, vs, hu, h1, h2⟩ := h
    exact ⟨us, vs, hu, RelVL.mono hI hw hρ hs fi _ h1, RelVL.mono hI hw hρ hs ca _ h2⟩
  | .iface t v, u, h => by
    obtain ⟨x, hu, h1⟩ := h
    exact ⟨x, hu, RelV.mono hI hw hρ hs v x h1⟩
  | .agg cs, u, h => by
    obtain ⟨us, hu, h1⟩ := h
    exact ⟨us, hu, RelVL.mono hI hw hρ hs cs _ h1⟩
  | .tuple cs, u, h => by
    obtain ⟨us, hu, h1⟩ := h
    exact ⟨us, hu, RelVL.mono hI hw hρ hs cs _ h1⟩
  | .opt g v, u, h => ⟨fun hg => RelV.mono hI hw hρ hs v u (h.1 hg), h.2⟩
  | .top, _, _ => by simp [RelV]
theorem RelVL.mono {P : Program} {w w' : World} {I I' : Nat → Prop} {ρ ρ' : List Nat} (hI : ∀ b, I b → I' b) (hw : ∀ b, I b → w'.heap[b]? = w.heap[b]?) (hρ : ρ <+: ρ')
    (hs : ∀ b ∈ ρ, ∀ s, w.shape? b = some s → w'.shape? b = some s) : ∀ (xs : List V) (us : List Value), RelVL P w I ρ xs us → RelVL P w' I' ρ' xs us
  | [], us, h => by simpa [RelVL] using h
  | c :: cs, us, h => by
    obtain ⟨u, us', hu, h1, h2⟩ := h
    exact ⟨u, us', hu, RelV.mono hI hw hρ hs c u h1, RelVL.mono hI hw hρ hs cs us' h2⟩
end

theorem RelB.mono {P : Program} {w w' : World} {I I' : Nat → Prop} {ρ ρ' : List Nat} (hI : ∀ b, I b → I' b) (hw : ∀ b, I b → w'.heap[b]? = w.heap[b]?) (hρ : ρ <+: ρ')
    (hs : ∀ b ∈ ρ, ∀ s, w.shape? b = some s → w'.shape? b = some s) {x : Blk} {b : Nat} (hb : w'.heap[b]? = w.heap[b]?) (h : RelB P w I ρ x b) : RelB P w' I' ρ' x b := by
  cases x with
  | cells cs e =>
    obtain ⟨arr, h1, h2⟩ := h
    exact ⟨arr, hb.trans h1, RelVL.mono hI hw hρ hs cs _ h2⟩
  | row cs e =>
    obtain ⟨arr, h1, h2, h3⟩ := h
    exact ⟨arr, hb.trans h1, h2, RelVL.mono hI hw hρ hs cs _ h3⟩
  | map ks vs =>
    obtain ⟨es, clock, h1, h2, h3, h4⟩ := h
    exact ⟨es, clock, hb.trans h1, RelVL.mono hI hw hρ hs ks _ h2, RelVL.mono hI hw hρ hs vs _ h3, h4⟩
  | strIter s pos => exact hb.trans h
  | mapIter ks vs last =>
    rcases h with ⟨h1, h2, h3, h4⟩ | ⟨r, es, clock, seen, h1, h2, h3, h4, h5, h6, h7⟩
    · exact .inl ⟨h1, h2, h3, hb.trans h4⟩
    · refine .inr ⟨r, es, clock, seen, hb.trans h1, hI r h2, (hw r h2).trans h3, h4, RelL.mono hI hw ks _ h5, RelL.mono hI hw vs _ h6, fun k v hl => ?_⟩
      obtain ⟨e, pre, k1, k2, k3, k4⟩ := h7 k v hl
      exact ⟨e, pre, k1, k2, Rel.mono hI hw k _ k3, Rel.mono hI hw v _ k4⟩
  | loop r st pe =>
    obtain ⟨h0, ⟨fn, d, h1⟩, h3⟩ := h
    exact ⟨h0, ⟨fn, d, hb.trans h1⟩, fun s v hv => RelV.mono hI hw hρ hs v _ (h3 s v hv)⟩
  | dead => trivial

/-- From one moment of a call to a later one: only own blocks and new ones have turned. -/
structure ExtW (w : World) (I : Nat → Prop) (ρ : List Nat) (w' : World) (I' : Nat → Prop) (ρ' : List Nat) : Prop where
  os : w'.os = w.os
  tape : w'.tape = w.tape
  output : w'.output = w.output
  size : w.heap.size ≤ w'.heap.size
  keep : ∀ b, b < w.heap.size → b ∉ ρ → w'.heap[b]? = w.heap[b]?
  shape : ∀ b s, w.shape? b = some s → w'.shape? b = some s
  imm : ∀ b, I b → I' b
  immKeep : ∀ b, I b → w'.heap[b]? = w.heap[b]?
  immNew : ∀ b, I' b → I b ∨ b ∈ ρ ∨ w.heap.size ≤ b
  defKeep : ∀ b : Nat, w.heap[b]? = some (Obj.deferred (some [])) → w'.heap[b]? = some (Obj.deferred (some []))
  defI : ∀ b : Nat, w.heap[b]? = some (Obj.deferred (some [])) → I' b → I b
  new : ∀ b ∈ ρ', b ∈ ρ ∨ w.heap.size ≤ b
/-- The same, where the own blocks keep their places too. -/
structure Ext (w : World) (I : Nat → Prop) (ρ : List Nat) (w' : World) (I' : Nat → Prop) (ρ' : List Nat) : Prop where
  w : ExtW w I ρ w' I' ρ'
  pre : ρ <+: ρ'

structure Inv (P : Program) (w : World) (I : Nat → Prop) (ρ : List Nat) (H : List Blk) : Prop where
  len : ρ.length = H.length
  bnd : ∀ (i b : Nat) (blk : Blk), ρ[i]? = some b → H[i]? = some blk → blk.live = true → b < w.heap.size
  ib : ∀ b, I b → b < w.heap.size
  live : ∀ (i b : Nat) (blk : Blk), ρ[i]? = some b → H[i]? = some blk → blk.live = true → ¬ I b
  dist : ∀ (i j b : Nat) (x y : Blk), ρ[i]? = some b → ρ[j]? = some b → H[i]? = some x → H[j]? = some y → x.live = true → y.live = true → i = j
  rel : ∀ (i b : Nat) (blk : Blk), ρ[i]? = some b → H[i]? = some blk → RelB P w I ρ blk b

theorem ExtW.refl (w : World) (I : Nat → Prop) (ρ : List Nat) : ExtW w I ρ w I ρ :=
  ⟨rfl, rfl, rfl, Nat.le_refl _, fun _ _ _ => rfl, fun _ _ h => h, fun _ h => h, fun _ _ => rfl, fun _ h => .inl h, fun _ h => h, fun _ _ h => h, fun _ h => .inl h⟩
theorem Ext.refl (w : World) (I : Nat → Prop) (ρ : List Nat) : Ext w I ρ w I ρ := ⟨ExtW.refl _ _ _, List.prefix_refl _⟩

theorem ExtW.trans {w w' w'' : World} {I I' I'' : Nat → Prop} {ρ ρ' ρ'' : List Nat} (h : ExtW w I ρ w' I' ρ') (k : ExtW w' I' ρ' w'' I'' ρ'') : ExtW w I ρ w'' I'' ρ'' where
  os := k.os.trans h.os
  tape := k.tape.trans h.tape
  output := k.output.trans h.output
  size := Nat.le_trans h.size k.size
  keep b hb hn := by
    have : b ∉ ρ' := fun hm => by
      rcases h.new b hm with h1 | h1
      · exact hn h1
      · omega
    exact (k.keep b (Nat.lt_of_lt_of_le hb h.size) this).trans (h.keep b hb hn)
  shape b s hs := k.shape b s (h.shape b s hs)
  imm b hb := k.imm b (h.imm b hb)
  immKeep b hb := (k.immKeep b (h.imm b hb)).trans (h.immKeep b hb)
  immNew b hb := by
    rcases k.immNew b hb with h1 | h1 | h1
    · exact h.immNew b h1
    · exact .inr (h.new b h1)
    · exact .inr (.inr (Nat.le_trans h.size h1))
  defKeep b hb := k.defKeep b (h.defKeep b hb)
  defI b hb hi := h.defI b hb (k.defI b (h.defKeep b hb) hi)
  new b hb := by
    rcases k.new b hb with h1 | h1
    · exact h.new b h1
    · exact .inr (Nat.le_trans h.size h1)
theorem Ext.trans {w w' w'' : World} {I I' I'' : Nat → Prop} {ρ ρ' ρ'' : List Nat} (h : Ext w I ρ w' I' ρ') (k : Ext w' I' ρ' w'' I'' ρ'') : Ext w I ρ w'' I'' ρ'' := ⟨h.w.trans k.w, h.pre.trans k.pre⟩

theorem RelV.ext {P : Program} {w w' : World} {I I' : Nat → Prop} {ρ ρ' : List Nat} (h : Ext w I ρ w' I' ρ') {x : V} {u : Value} (hx : RelV P w I ρ x u) : RelV P w' I' ρ' x u :=
  RelV.mono h.w.imm h.w.immKeep h.pre (fun b _ s hs => h.w.shape b s hs) x u hx
theorem RelVL.ext {P : Program} {w w' : World} {I I' : Nat → Prop} {ρ ρ' : List Nat} (h : Ext w I ρ w' I' ρ') {x : List V} {u : List Value} (hx : RelVL P w I ρ x u) : RelVL P w' I' ρ' x u :=
  RelVL.mono h.w.imm h.w.immKeep h.pre (fun b _ s hs => h.w.shape b s hs) x u hx
theorem Rel.ext {w w' : World} {I I' : Nat → Prop} {ρ ρ' : List Nat} (h : Ext w I ρ w' I' ρ') {x : PV} {u : Value} (hx : Rel w I x u) : Rel w' I' x u :=
  Rel.mono h.w.imm h.w.immKeep x u hx
theorem RelB.ext {P : Program} {w w' : World} {I I' : Nat → Prop} {ρ ρ' : List Nat} {H : List Blk} (h : Ext w I ρ w' I' ρ') (hi : Inv P w I ρ H) {i b : Nat} {x : Blk} (hρ : ρ[i]? = some b) (hH : H[i]? = some x)
    (hb : w'.heap[b]? = w.heap[b]?) : RelB P w' I' ρ' x b :=
  RelB.mono h.w.imm h.w.immKeep h.pre (fun b _ s hs => h.w.shape b s hs) hb (hi.rel i b x hρ hH)

/-! ### The slots of a frame -/

structure TRel (P : Program) (w : World) (I : Nat → Prop) (ρ : List Nat) (N : Nat) (T : List (Nat × V)) (tmps : Array Value) : Prop where
  size : tmps.size = N
  at_ : ∀ s v, lk T s = some v → RelV P w I ρ v (tmps.getD s undef)

theorem TRel.ext {P : Program} {w w' : World} {I I' : Nat → Prop} {ρ ρ' : List Nat} {N : Nat} {T : List (Nat × V)} {tmps : Array Value} (h : Ext w I ρ w' I' ρ') (t : TRel P w I ρ N T tmps) : TRel P w' I' ρ' N T tmps :=
  ⟨t.size, fun s v hv => (t.at_ s v hv).ext h⟩

def setT (T : List (Nat × V)) : Option Nat → V → List (Nat × V)
  | some d, v => (d, v) :: T
  | none, _ => T

def dstOk (N : Nat) : Option Nat → Bool
  | some d => Nat.blt d N
  | none => true

theorem TRel.put {P : Program} {w : World} {I : Nat → Prop} {ρ : List Nat} {N : Nat} {T : List (Nat × V)} {a : Act} {dst : Option Nat} {v : V} {u : Value} (hd : dstOk N dst = true)
    (t : TRel P w I ρ N T a.tmps) (hv : RelV P w I ρ v u) : TRel P w I ρ N (setT T dst v) (a.put dst u).tmps := by
  cases dst with
  | none => exact t
  | some d =>
    have hlt : d < N := by simpa [dstOk, Nat.blt, Nat.lt_iff_add_one_le] using hd
    refine ⟨by simp [Act.put, t.size], fun s x hx => ?_⟩
    simp only [setT, lk] at hx
    by_cases hs : d = s
    · subst hs
      simp at hx
      subst hx
      have h1 : d < a.tmps.size := by rw [t.size]; exact hlt
      simpa [Act.put, h1] using hv
    · have hb : Nat.beq d s = false := by
        cases h0 : Nat.beq d s with
        | false => rfl
        | true => exact absurd (Nat.eq_of_beq_eq_true h0) hs
      simp only [hb, cond_false] at hx
      have := t.at_ s x hx
      simpa [Act.put, hs] using this

/-- T says no more than T'. -/
def Sub (T T' : List (Nat × V)) : Prop := ∀ s v, lk T s = some v → lk T' s = some v
def subB : List (Nat × V) → List (Nat × V) → Prop
  | [], _ => True
  | (s, v) :: r, T' => lk T' s = some v ∧ subB r T'
theorem Sub.of {T T' : List (Nat × V)} (h : subB T T') : Sub T T' := by
  induction T with
  | nil => intro s v h; cases h
  | cons x r ih =>
    obtain ⟨a, y⟩ := x
    obtain ⟨h1, h2⟩ := h
    intro s v hv
    simp only [lk] at hv
    cases hb : Nat.beq a s with
    | false => rw [hb] at hv; exact ih h2 s v hv
    | true =>
      rw [hb] at hv
      have := Nat.eq_of_beq_eq_true hb
      subst this
      simp at hv
      subst hv
      exact h1
theorem Sub.refl (T : List (Nat × V)) : Sub T T := fun _ _ h => h
theorem TRel.sub {P : Program} {w : World} {I : Nat → Prop} {ρ : List Nat} {N : Nat} {T T' : List (Nat × V)} {tmps : Array Value} (h : Sub T' T) (t : TRel P w I ρ N T tmps) : TRel P w I ρ N T' tmps :=
  ⟨t.size, fun s v hv => t.at_ s v (h s v hv)⟩

def ofScalar : Value → Option PV
  | .bool b => some (.bool b)
  | .int k n => some (.int k n)
  | .string s => some (.str s)
  | .pointer none => some .nilPtr
  | .slice none 0 0 => some .nilSlice
  | .map none => some .nilMap
  | .nilFunc => some .nilFunc
  | .nilIface => some .nilIface
  | _ => none
theorem Rel.scalar {w : World} {I : Nat → Prop} {v : Value} {x : PV} (h : ofScalar v = some x) : Rel w I x v := by
  unfold ofScalar at h
  split at h <;> simp_all <;> subst h <;> simp [Rel]
def ofScalars : List Value → Option (List PV)
  | [] => some []
  | v :: vs => match ofScalar v, ofScalars vs with
    | some x, some xs => some (x :: xs)
    | _, _ => none
theorem RelL.scalars {w : World} {I : Nat → Prop} : ∀ {vs : List Value} {xs : List PV}, ofScalars vs = some xs → RelL w I xs vs
  | [], _, h => by simp [ofScalars] at h; subst h; simp [RelL]
  | v :: vs, xs, h => by
    simp only [ofScalars] at h
    split at h
    · rename_i x ys h1 h2
      simp at h; subst h
      exact ⟨v, vs, rfl, Rel.scalar h1, RelL.scalars h2⟩
    · cases h
def ofVal : Value → Option PV
  | .agg cs => (ofScalars cs.toList).map .agg
  | v => ofScalar v
theorem Rel.val {w : World} {I : Nat → Prop} {v : Value} {x : PV} (h : ofVal v = some x) : Rel w I x v := by
  unfold ofVal at h
  split at h
  · simp at h
    obtain ⟨xs, h1, rfl⟩ := h
    exact ⟨_, rfl, RelL.scalars h1⟩
  · exact Rel.scalar h

/-- An operand's value. -/
def ev (T : List (Nat × V)) : Operand → Option V
  | .tmp t => lk T t
  | .const v => (ofVal v).map .p
  | .func f => some (.p (.func (.func f) [] []))
  | .global _ => none
theorem TRel.ev {P : Program} {w : World} {I : Nat → Prop} {ρ : List Nat} {N : Nat} {T : List (Nat × V)} {a : Act} (t : TRel P w I ρ N T a.tmps) {x : Operand} {v : V} (h : AF.ev T x = some v) : RelV P w I ρ v (a.eval x) := by
  cases x with
  | tmp s => exact t.at_ s v h
  | const c =>
    simp only [AF.ev, Option.map_eq_some_iff] at h
    obtain ⟨y, h1, rfl⟩ := h
    exact Rel.val h1
  | func f =>
    simp only [AF.ev, Option.some.injEq] at h
    subst h
    simp [RelV, Rel, RelL, Act.eval]
  | global g => cases h
def evs (T : List (Nat × V)) : List Operand → Option (List V)
  | [] => some []
  | x :: xs => match ev T x, evs T xs with
    | some v, some vs => some (v :: vs)
    | _, _ => none
theorem TRel.evs {P : Program} {w : World} {I : Nat → Prop} {ρ : List Nat} {N : Nat} {T : List (Nat × V)} {a : Act} (t : TRel P w I ρ N T a.tmps) : ∀ {xs : List Operand} {vs : List V}, AF.evs T xs = some vs → RelVL P w I ρ vs (xs.map a.eval)
  | [], vs, h => by simp [AF.evs] at h; subst h; simp [RelVL]
  | x :: xs, vs, h => by
    simp only [AF.evs] at h
    split at h
    · rename_i y ys h1 h2
      simp at h; subst h
      exact ⟨_, _, rfl, t.ev h1, t.evs h2⟩
    · cases h
end Go.AF
