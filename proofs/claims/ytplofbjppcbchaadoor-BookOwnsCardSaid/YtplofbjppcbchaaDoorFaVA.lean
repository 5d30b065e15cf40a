/-
  Abstract values and what they say of a world; control, operations, calls. No condition; generic over any program.
-/
import Derived.TacticsIn
import Derived.OrdersIn
import Derived.RangeFuncLeaves
import Derived.RangeFuncRecord
import Derived.Laws.World
import Derived.Laws.Cells
import Derived.Laws.BitsLemmas
import Derived.ChangeKeysEq
section
/-! ## Abstract values and what they say of a world: the base of the layer AF. -/
section
namespace Go.AF

/-- Immutable data, by content. -/
inductive PV where
  | bool (b : Bool)
  | int (k : IntKind) (n : Int)
  | str (s : ByteArray)
  | nilPtr | nilSlice | nilMap | nilFunc | nilIface
  | ip (cs : List PV) (off : Nat)
  | is (cs : List PV) (len : Nat)
  | im (ks vs : List PV)
  | func (fn : Fn) (first captured : List PV)
  | iface (t : TypeId) (v : PV)
  | agg (cs : List PV)
  | tuple (vs : List PV)

/-- A value of a walk: immutable data, or a reference to an own block (by its place in the list of own blocks). -/
inductive V where
  | p (x : PV)
  | ptr (i off : Nat)
  | row (i len : Nat)
  | sl (i off len : Nat)
  | map (i : Nat)
  | func (fn : Fn) (first captured : List V)
  | iface (t : TypeId) (v : V)
  | agg (cs : List V)
  | tuple (vs : List V)
  | opt (g : Bool) (v : V)
  | raw (a : Option Addr) (n c : Nat)
  | z0
  | top

/-- What the record of a range over a function holds. -/
structure LRec where
  l : Nat
  tmps : Array Value
  T : List (Nat × V)
  ps : Array Tmp
  asg : Code
  body : Code

inductive Blk where
  | cells (cs : List V) (e : TypeId)
  | row (cs : List V) (e : TypeId)
  | rowF (cs : List V) (e : TypeId)
  | map (ks vs : List V)
  | strIter (s : ByteArray) (pos : Nat)
  | mapIter (ks vs : List PV) (last : Option (PV × PV))
  | loop (r : LRec) (st : LoopState) (pe : Option Code)
  | dead

def Blk.live : Blk → Bool
  | .dead => false
  | _ => true

/-- What a frame's slot holds. -/
def lk : List (Nat × V) → Nat → Option V
  | [], _ => none
  | (a, v) :: r, s => bif Nat.beq a s then some v else lk r s

/-- Stamps of a map's entries: distinct, and below the clock. -/
def BornOk (es : Array MapEntry) (clock : Nat) : Prop := (es.toList.map (·.born)).Nodup ∧ ∀ e ∈ es.toList, e.born < clock

section
variable (w : World) (I : Nat → Prop)
mutual
def Rel : PV → Value → Prop
  | .bool b, u => u = .bool b
  | .int k n, u => u = .int k n
  | .str s, u => u = .string s
  | .nilPtr, u => u = .pointer none
  | .nilSlice, u => u = .slice none 0 0
  | .nilMap, u => u = .map none
  | .nilFunc, u => u = .nilFunc
  | .nilIface, u => u = .nilIface
  | .ip cs off, u => ∃ b o, I b ∧ u = .pointer (some ⟨b, o + off, none⟩) ∧ RelAt cs b o
  | .is cs len, u => ((∃ a cap, u = .slice a 0 cap) ∧ len = 0) ∨ ∃ b o cap, (cs ≠ [] → I b) ∧ len ≤ cap ∧ u = .slice (some ⟨b, o, none⟩) len cap ∧ RelAt cs b o
  | .im ks vs, u => ∃ r es clock, I r ∧ u = .map (some r) ∧ w.heap[r]? = some (.map es clock) ∧ RelL ks (es.toList.map (·.key)) ∧ RelL vs (es.toList.map (·.val)) ∧ BornOk es clock
  | .func fn fi ca, u => ∃ us vs, u = .func fn us vs ∧ RelL fi us.toList ∧ RelL ca vs.toList
  | .iface t v, u => ∃ x, u = .iface t x ∧ Rel v x
  | .agg cs, u => ∃ us, u = .agg us ∧ RelL cs us.toList
  | .tuple cs, u => ∃ us, u = .tuple us ∧ RelL cs us.toList
def RelL : List PV → List Value → Prop
  | [], us => us = []
  | c :: cs, us => ∃ u us', us = u :: us' ∧ Rel c u ∧ RelL cs us'
def RelAt : List PV → Nat → Nat → Prop
  | [], _, _ => True
  | c :: cs, b, o => (∃ u, w.cell? ⟨b, o, none⟩ = some u ∧ Rel c u) ∧ RelAt cs b (o + 1)
end
end

section
variable (P : Program) (w : World) (I : Nat → Prop) (ρ : List Nat)
mutual
def RelV : V → Value → Prop
  | .p x, u => Rel w I x u
  | .ptr i off, u => ∃ b, ρ[i]? = some b ∧ u = .pointer (some ⟨b, off, none⟩)
  | .row i len, u => ∃ b e cap, ρ[i]? = some b ∧ u = .slice (some ⟨b, 0, none⟩) len cap ∧ w.shape? b = some (e, cap * P.cellsOf e) ∧ len ≤ cap
  | .sl i off len, u => ∃ b cap, ρ[i]? = some b ∧ u = .slice (some ⟨b, off, none⟩) len cap ∧ len ≤ cap
  | .map i, u => ∃ b, ρ[i]? = some b ∧ u = .map (some b)
  | .func fn fi ca, u => ∃ us vs, u = .func fn us vs ∧ RelVL fi us.toList ∧ RelVL ca vs.toList
  | .iface t v, u => ∃ x, u = .iface t x ∧ RelV v x
  | .agg cs, u => ∃ us, u = .agg us ∧ RelVL cs us.toList
  | .tuple cs, u => ∃ us, u = .tuple us ∧ RelVL cs us.toList
  | .opt g v, u => (g = true → RelV v u) ∧ (g = false → u = undef)
  | .raw a n c, u => u = .slice a n c
  | .z0, u => ∃ a, u = .slice a 0 0
  | .top, _ => True
def RelVL : List V → List Value → Prop
  | [], us => us = []
  | c :: cs, us => ∃ u us', us = u :: us' ∧ RelV c u ∧ RelVL cs us'
end

/-- What an own block holds. -/
def RelB : Blk → Nat → Prop
  | .cells cs e, b => ∃ arr, w.heap[b]? = some (.cells arr e (0, 0)) ∧ RelVL P w I ρ cs arr.toList
  | .row cs e, b => ∃ arr, w.heap[b]? = some (.cells arr e (0, 0)) ∧ cs.length ≤ arr.size ∧ RelVL P w I ρ cs (arr.toList.take cs.length)
  | .rowF cs e, b => ∃ arr m, w.heap[b]? = some (.cells arr e (0, m)) ∧ m ≤ cs.length ∧ cs.length ≤ arr.size ∧ RelVL P w I ρ cs (arr.toList.take cs.length)
  | .map ks vs, b => ∃ es clock, w.heap[b]? = some (.map es clock) ∧ RelVL P w I ρ ks (es.toList.map (·.key)) ∧ RelVL P w I ρ vs (es.toList.map (·.val)) ∧ BornOk es clock
  | .strIter s pos, b => w.heap[b]? = some (.stringIter s pos)
  | .mapIter ks vs last, b => (ks = [] ∧ vs = [] ∧ last = none ∧ w.heap[b]? = some (.mapIter none 0 #[] 0)) ∨
      ∃ r es clock seen, w.heap[b]? = some (.mapIter (some r) clock seen clock) ∧ I r ∧ w.heap[r]? = some (.map es clock) ∧ BornOk es clock ∧
        RelL w I ks ((es.toList.filter fun e => !seen.contains e.born).map (·.key)) ∧ RelL w I vs ((es.toList.filter fun e => !seen.contains e.born).map (·.val)) ∧
        ∀ k v, last = some (k, v) → ∃ (e : MapEntry) (pre : Array Nat), e ∈ es.toList ∧ seen = pre.push e.born ∧ Rel w I k e.key ∧ Rel w I v e.val
  | .loop r st pe, b => b = r.l ∧ (∃ fn d, w.heap[b]? = some (.loop { state := st, pending := pe, fn, tmps := r.tmps, params := r.ps, assign := r.asg, body := r.body, defers := d })) ∧ ∀ s v, lk r.T s = some v → RelV P w I ρ v (r.tmps.getD s undef)
  | .dead, _ => True
end

theorem pre_get {α : Type} {l l' : List α} (h : l <+: l') {i : Nat} {b : α} (hb : l[i]? = some b) : l'[i]? = some b := by
  obtain ⟨t, rfl⟩ := h
  rw [List.getElem?_append_left (List.getElem?_eq_some_iff.1 hb).1]
  exact hb
theorem cell_of_block {w w' : World} {b o : Nat} {s : Option Nat} (h : w'.heap[b]? = w.heap[b]?) : w'.cell? ⟨b, o, s⟩ = w.cell? ⟨b, o, s⟩ := by
  simp only [World.cell?, h]
/-! ### Moving to a later world -/
mutual
theorem Rel.mono {w w' : World} {I I' : Nat → Prop} (hI : ∀ b, I b → I' b) (hw : ∀ b, I b → w'.heap[b]? = w.heap[b]?) : ∀ (x : PV) (u : Value), Rel w I x u → Rel w' I' x u
  | .bool _, _, h => by simpa [Rel] using h
  | .int _ _, _, h => by simpa [Rel] using h
  | .str _, _, h => by simpa [Rel] using h
  | .nilPtr, _, h => by simpa [Rel] using h
  | .nilSlice, _, h => by simpa [Rel] using h
  | .nilMap, _, h => by simpa [Rel] using h
  | .nilFunc, _, h => by simpa [Rel] using h
  | .nilIface, _, h => by simpa [Rel] using h
  | .ip cs off, u, h => by
    obtain ⟨b, o, hb, hu, hc⟩ := h
    exact ⟨b, o, hI b hb, hu, RelAt.mono hI hw cs b o (fun _ => hb) hc⟩
  | .is cs len, u, h => by
    rcases h with h | ⟨b, o, cap, hb, hl, hu, hc⟩
    · exact .inl h
    · exact .inr ⟨b, o, cap, fun hn => hI b (hb hn), hl, hu, RelAt.mono hI hw cs b o hb hc⟩
  | .im ks vs, u, h => by
    obtain ⟨r, es, clock, hr, hu, hh, hk, hv, hb⟩ := h
    exact ⟨r, es, clock, hI r hr, hu, by rw [hw r hr]; exact hh, RelL.mono hI hw ks _ hk, RelL.mono hI hw vs _ hv, hb⟩
  | .func fn fi ca, u, h => by
    obtain ⟨us, vs, hu, h1, h2⟩ := h
    exact ⟨us, vs, hu, RelL.mono hI hw fi _ h1, RelL.mono hI hw ca _ h2⟩
  | .iface t v, u, h => by
    obtain ⟨x, hu, h1⟩ := h
    exact ⟨x, hu, Rel.mono hI hw v x h1⟩
  | .agg cs, u, h => by
    obtain ⟨us, hu, h1⟩ := h
    exact ⟨us, hu, RelL.mono hI hw cs _ h1⟩
  | .tuple cs, u, h => by
    obtain ⟨us, hu, h1⟩ := h
    exact ⟨us, hu, RelL.mono hI hw cs _ h1⟩
theorem RelL.mono {w w' : World} {I I' : Nat → Prop} (hI : ∀ b, I b → I' b) (hw : ∀ b, I b → w'.heap[b]? = w.heap[b]?) : ∀ (xs : List PV) (us : List Value), RelL w I xs us → RelL w' I' xs us
  | [], us, h => by simpa [RelL] using h
  | c :: cs, us, h => by
    obtain ⟨u, us', hu, h1, h2⟩ := h
    exact ⟨u, us', hu, Rel.mono hI hw c u h1, RelL.mono hI hw cs us' h2⟩
theorem RelAt.mono {w w' : World} {I I' : Nat → Prop} (hI : ∀ b, I b → I' b) (hw : ∀ b, I b → w'.heap[b]? = w.heap[b]?) : ∀ (xs : List PV) (b o : Nat), (xs ≠ [] → I b) → RelAt w I xs b o → RelAt w' I' xs b o
  | [], _, _, _, _ => by simp [RelAt]
  | c :: cs, b, o, hb, h => by
    obtain ⟨⟨u, hu, h1⟩, h2⟩ := h
    have hbb := hb (by simp)
    exact ⟨⟨u, (cell_of_block (hw b hbb)).trans hu, Rel.mono hI hw c u h1⟩, RelAt.mono hI hw cs b (o + 1) (fun _ => hbb) h2⟩
end

mutual
theorem RelV.mono {P : Program} {w w' : World} {I I' : Nat → Prop} {ρ ρ' : List Nat} (hI : ∀ b, I b → I' b) (hw : ∀ b, I b → w'.heap[b]? = w.heap[b]?) (hρ : ρ <+: ρ')
    (hs : ∀ b ∈ ρ, ∀ s, w.shape? b = some s → w'.shape? b = some s) : ∀ (x : V) (u : Value), RelV P w I ρ x u → RelV P w' I' ρ' x u
  | .p x, u, h => Rel.mono hI hw x u h
  | .ptr i off, u, h => by
    obtain ⟨b, hb, hu⟩ := h
    exact ⟨b, pre_get hρ hb, hu⟩
  | .row i len, u, h => by
    obtain ⟨b, e, cap, hb, hu, hsh, hl⟩ := h
    exact ⟨b, e, cap, pre_get hρ hb, hu, hs b (List.mem_of_getElem? hb) _ hsh, hl⟩
  | .sl i off len, u, h => by
    obtain ⟨b, cap, hb, hu⟩ := h
    exact ⟨b, cap, pre_get hρ hb, hu⟩
  | .map i, u, h => by
    obtain ⟨b, hb, hu⟩ := h
    exact ⟨b, pre_get hρ hb, hu⟩
  | .func fn fi ca, u, h => by
    obtain ⟨us, vs, hu, h1, h2⟩ := h
    exact ⟨us, vs, hu, RelVL.mono hI hw hρ hs fi _ h1, RelVL.mono hI hw hρ hs ca _ h2⟩
  | .iface t v, u, h => by
    obtain ⟨x, hu, h1⟩ := h
    exact ⟨x, hu, RelV.mono hI hw hρ hs v x h1⟩
  | .agg cs, u, h => by
    obtain ⟨us, hu, h1⟩ := h
    exact ⟨us, hu, RelVL.mono hI hw hρ hs cs _ h1⟩
  | .tuple cs, u, h => by
    obtain ⟨us, hu, h1⟩ := h
    exact ⟨us, hu, RelVL.mono hI hw hρ hs cs _ h1⟩
  | .opt g v, u, h => ⟨fun hg => RelV.mono hI hw hρ hs v u (h.1 hg), h.2⟩
  | .raw _ _ _, u, h => h
  | .z0, u, h => h
  | .top, _, _ => by simp [RelV]
theorem RelVL.mono {P : Program} {w w' : World} {I I' : Nat → Prop} {ρ ρ' : List Nat} (hI : ∀ b, I b → I' b) (hw : ∀ b, I b → w'.heap[b]? = w.heap[b]?) (hρ : ρ <+: ρ')
    (hs : ∀ b ∈ ρ, ∀ s, w.shape? b = some s → w'.shape? b = some s) : ∀ (xs : List V) (us : List Value), RelVL P w I ρ xs us → RelVL P w' I' ρ' xs us
  | [], us, h => by simpa [RelVL] using h
  | c :: cs, us, h => by
    obtain ⟨u, us', hu, h1, h2⟩ := h
    exact ⟨u, us', hu, RelV.mono hI hw hρ hs c u h1, RelVL.mono hI hw hρ hs cs us' h2⟩
end

theorem RelB.mono {P : Program} {w w' : World} {I I' : Nat → Prop} {ρ ρ' : List Nat} (hI : ∀ b, I b → I' b) (hw : ∀ b, I b → w'.heap[b]? = w.heap[b]?) (hρ : ρ <+: ρ')
    (hs : ∀ b ∈ ρ, ∀ s, w.shape? b = some s → w'.shape? b = some s) {x : Blk} {b : Nat} (hb : w'.heap[b]? = w.heap[b]?) (h : RelB P w I ρ x b) : RelB P w' I' ρ' x b := by
  cases x with
  | cells cs e =>
    obtain ⟨arr, h1, h2⟩ := h
    exact ⟨arr, hb.trans h1, RelVL.mono hI hw hρ hs cs _ h2⟩
  | row cs e =>
    obtain ⟨arr, h1, h2, h3⟩ := h
    exact ⟨arr, hb.trans h1, h2, RelVL.mono hI hw hρ hs cs _ h3⟩
  | rowF cs e =>
    obtain ⟨arr, m, h1, h0, h2, h3⟩ := h
    exact ⟨arr, m, hb.trans h1, h0, h2, RelVL.mono hI hw hρ hs cs _ h3⟩
  | map ks vs =>
    obtain ⟨es, clock, h1, h2, h3, h4⟩ := h
    exact ⟨es, clock, hb.trans h1, RelVL.mono hI hw hρ hs ks _ h2, RelVL.mono hI hw hρ hs vs _ h3, h4⟩
  | strIter s pos => exact hb.trans h
  | mapIter ks vs last =>
    rcases h with ⟨h1, h2, h3, h4⟩ | ⟨r, es, clock, seen, h1, h2, h3, h4, h5, h6, h7⟩
    · exact .inl ⟨h1, h2, h3, hb.trans h4⟩
    · refine .inr ⟨r, es, clock, seen, hb.trans h1, hI r h2, (hw r h2).trans h3, h4, RelL.mono hI hw ks _ h5, RelL.mono hI hw vs _ h6, fun k v hl => ?_⟩
      obtain ⟨e, pre, k1, k2, k3, k4⟩ := h7 k v hl
      exact ⟨e, pre, k1, k2, Rel.mono hI hw k _ k3, Rel.mono hI hw v _ k4⟩
  | loop r st pe =>
    obtain ⟨h0, ⟨fn, d, h1⟩, h3⟩ := h
    exact ⟨h0, ⟨fn, d, hb.trans h1⟩, fun s v hv => RelV.mono hI hw hρ hs v _ (h3 s v hv)⟩
  | dead => trivial

/-- No cell of a block is shared with a string; or it holds no number of 64 bits with a sign. -/
def NF (w : World) (b : Nat) : Prop := ∀ arr e fr, w.heap[b]? = some (.cells arr e fr) → fr = (0, 0) ∨ ∀ (q : Nat) (n : Int), arr[q]? ≠ some (.int .i64 n)
theorem NF.of {w w' : World} {b : Nat} (h : NF w b) (e : w'.heap[b]? = w.heap[b]?) : NF w' b := fun arr el fr h2 => h arr el fr (e.symm.trans h2)
/-- From one moment of a call to a later one: only own blocks and new ones have turned. -/
structure ExtW (w : World) (I : Nat → Prop) (ρ : List Nat) (w' : World) (I' : Nat → Prop) (ρ' : List Nat) : Prop where
  os : w'.os = w.os
  tape : w'.tape = w.tape
  output : w'.output = w.output
  size : w.heap.size ≤ w'.heap.size
  keep : ∀ b, b < w.heap.size → b ∉ ρ → w'.heap[b]? = w.heap[b]?
  shape : ∀ b s, w.shape? b = some s → w'.shape? b = some s
  imm : ∀ b, I b → I' b
  immKeep : ∀ b, I b → w'.heap[b]? = w.heap[b]?
  immNew : ∀ b, I' b → I b ∨ b ∈ ρ ∨ w.heap.size ≤ b
  nf : ∀ b, I' b → I b ∨ NF w' b
  defKeep : ∀ b : Nat, w.heap[b]? = some (Obj.deferred (some [])) → w'.heap[b]? = some (Obj.deferred (some []))
  defI : ∀ b : Nat, w.heap[b]? = some (Obj.deferred (some [])) → I' b → I b
  new : ∀ b ∈ ρ', b ∈ ρ ∨ w.heap.size ≤ b
/-- The same, where the own blocks keep their places too. -/
structure Ext (w : World) (I : Nat → Prop) (ρ : List Nat) (w' : World) (I' : Nat → Prop) (ρ' : List Nat) : Prop where
  w : ExtW w I ρ w' I' ρ'
  pre : ρ <+: ρ'

/-! ### What the program lays in its package variables -/
def laidX : Operand → Option PV
  | .const (.int k n) => some (.int k n)
  | .const (.bool b) => some (.bool b)
  | _ => none
def laidOps : List Oper → List (Nat × List PV)
  | o1 :: o2 :: rest => (match o1.op, o2.op with
    | .build _ parts, .store _ (.global g) _ => (match if parts.toList.map (·.1) == List.range parts.size then parts.toList.mapM fun p => laidX p.2 else none with
      | some l => [(g, l)]
      | none => [])
    | _, _ => []) ++ laidOps (o2 :: rest)
  | _ => []
def laidC : Code → List (Nat × List PV)
  | .region _ l _ => laidOps l.toList
  | .seq a b => laidC a ++ laidC b
  | _ => []
def laidG (P : Program) : List (Nat × List PV) := match P.funcs.toList.find? fun f => f.name == "gosem.cut.vars" with
  | some f => (match f.body with
    | some c => laidC c
    | none => [])
  | none => []
/-- Whether the table of blanks is looked at (a claim that does says true). -/
def spOn : Bool := false
/-- Which bytes are blanks. -/
def spTab : List Int := (List.range 256).map fun c => if c == 9 || c == 10 || c == 11 || c == 12 || c == 13 || c == 32 then 1 else 0
/-- The package variables hold what the program lays in them, and nobody writes them; and the one variable of the library's that start-up code sets by the machine (internal/bytealg.MaxLen), where the program has it, holds some number. -/
def GOk (P : Program) (w : World) (I : Nat → Prop) : Prop := (∀ x ∈ laidG P, I x.1 ∧ RelAt w I x.2 x.1 0 ∧ ∃ arr e fr, w.heap[x.1]? = some (.cells arr e fr) ∧ arr.size = x.2.length) ∧ (spOn = true → ∀ g, P.globalNamed "strings.asciiSpace" = some g → I g ∧ RelAt w I (spTab.map (PV.int .u8)) g 0) ∧ ∀ g, P.globalNamed "internal/bytealg.MaxLen" = some g → I g ∧ ∃ m, w.cell? ⟨g, 0, none⟩ = some (.int .i64 m)
theorem GOk.mono {P : Program} {w w' : World} {I I' : Nat → Prop} (h : GOk P w I) (hI : ∀ b, I b → I' b) (hw : ∀ b, I b → w'.heap[b]? = w.heap[b]?) : GOk P w' I' := ⟨fun x hx => by
  obtain ⟨h1, h2, h3⟩ := h.1 x hx
  rw [← hw _ h1] at h3
  exact ⟨hI _ h1, RelAt.mono hI hw _ _ _ (fun _ => h1) h2, h3⟩, fun hs g hg => by
  obtain ⟨h1, h2⟩ := h.2.1 hs g hg
  exact ⟨hI _ h1, RelAt.mono hI hw _ _ _ (fun _ => h1) h2⟩, fun g hg => by
  obtain ⟨h1, m, h2⟩ := h.2.2 g hg
  refine ⟨hI _ h1, m, ?_⟩
  rw [← h2]
  unfold World.cell?
  simp only [hw _ h1]⟩

structure Inv (P : Program) (w : World) (I : Nat → Prop) (ρ : List Nat) (H : List Blk) : Prop where
  len : ρ.length = H.length
  bnd : ∀ (i b : Nat) (blk : Blk), ρ[i]? = some b → H[i]? = some blk → blk.live = true → b < w.heap.size
  ib : ∀ b, I b → b < w.heap.size
  live : ∀ (i b : Nat) (blk : Blk), ρ[i]? = some b → H[i]? = some blk → blk.live = true → ¬ I b
  dist : ∀ (i j b : Nat) (x y : Blk), ρ[i]? = some b → ρ[j]? = some b → H[i]? = some x → H[j]? = some y → x.live = true → y.live = true → i = j
  rel : ∀ (i b : Nat) (blk : Blk), ρ[i]? = some b → H[i]? = some blk → RelB P w I ρ blk b
  gl : GOk P w I

theorem ExtW.refl (w : World) (I : Nat → Prop) (ρ : List Nat) : ExtW w I ρ w I ρ :=
  ⟨rfl, rfl, rfl, Nat.le_refl _, fun _ _ _ => rfl, fun _ _ h => h, fun _ h => h, fun _ _ => rfl, fun _ h => .inl h, fun _ h => .inl h, fun _ h => h, fun _ _ h => h, fun _ h => .inl h⟩
theorem Ext.refl (w : World) (I : Nat → Prop) (ρ : List Nat) : Ext w I ρ w I ρ := ⟨ExtW.refl _ _ _, List.prefix_refl _⟩

theorem ExtW.trans {w w' w'' : World} {I I' I'' : Nat → Prop} {ρ ρ' ρ'' : List Nat} (h : ExtW w I ρ w' I' ρ') (k : ExtW w' I' ρ' w'' I'' ρ'') : ExtW w I ρ w'' I'' ρ'' where
  os := k.os.trans h.os
  tape := k.tape.trans h.tape
  output := k.output.trans h.output
  size := Nat.le_trans h.size k.size
  keep b hb hn := by
    have : b ∉ ρ' := fun hm => by
      rcases h.new b hm with h1 | h1
      · exact hn h1
      · omega
    exact (k.keep b (Nat.lt_of_lt_of_le hb h.size) this).trans (h.keep b hb hn)
  shape b s hs := k.shape b s (h.shape b s hs)
  imm b hb := k.imm b (h.imm b hb)
  immKeep b hb := (k.immKeep b (h.imm b hb)).trans (h.immKeep b hb)
  immNew b hb := by
    rcases k.immNew b hb with h1 | h1 | h1
    · exact h.immNew b h1
    · exact .inr (h.new b h1)
    · exact .inr (.inr (Nat.le_trans h.size h1))
  defKeep b hb := k.defKeep b (h.defKeep b hb)
  defI b hb hi := h.defI b hb (k.defI b (h.defKeep b hb) hi)
  nf b hb := by
    rcases k.nf b hb with h1 | h1
    · rcases h.nf b h1 with h2 | h2
      · exact .inl h2
      · exact .inr fun arr e fr h3 => h2 arr e fr ((k.immKeep b h1).symm.trans h3)
    · exact .inr h1
  new b hb := by
    rcases k.new b hb with h1 | h1
    · exact h.new b h1
    · exact .inr (Nat.le_trans h.size h1)
theorem Ext.trans {w w' w'' : World} {I I' I'' : Nat → Prop} {ρ ρ' ρ'' : List Nat} (h : Ext w I ρ w' I' ρ') (k : Ext w' I' ρ' w'' I'' ρ'') : Ext w I ρ w'' I'' ρ'' := ⟨h.w.trans k.w, h.pre.trans k.pre⟩

theorem RelV.ext {P : Program} {w w' : World} {I I' : Nat → Prop} {ρ ρ' : List Nat} (h : Ext w I ρ w' I' ρ') {x : V} {u : Value} (hx : RelV P w I ρ x u) : RelV P w' I' ρ' x u :=
  RelV.mono h.w.imm h.w.immKeep h.pre (fun b _ s hs => h.w.shape b s hs) x u hx
theorem RelVL.ext {P : Program} {w w' : World} {I I' : Nat → Prop} {ρ ρ' : List Nat} (h : Ext w I ρ w' I' ρ') {x : List V} {u : List Value} (hx : RelVL P w I ρ x u) : RelVL P w' I' ρ' x u :=
  RelVL.mono h.w.imm h.w.immKeep h.pre (fun b _ s hs => h.w.shape b s hs) x u hx
theorem RelB.ext {P : Program} {w w' : World} {I I' : Nat → Prop} {ρ ρ' : List Nat} {H : List Blk} (h : Ext w I ρ w' I' ρ') (hi : Inv P w I ρ H) {i b : Nat} {x : Blk} (hρ : ρ[i]? = some b) (hH : H[i]? = some x)
    (hb : w'.heap[b]? = w.heap[b]?) : RelB P w' I' ρ' x b :=
  RelB.mono h.w.imm h.w.immKeep h.pre (fun b _ s hs => h.w.shape b s hs) hb (hi.rel i b x hρ hH)

/-! ### The slots of a frame -/

structure TRel (P : Program) (w : World) (I : Nat → Prop) (ρ : List Nat) (N : Nat) (T : List (Nat × V)) (tmps : Array Value) : Prop where
  size : tmps.size = N
  at_ : ∀ s v, lk T s = some v → RelV P w I ρ v (tmps.getD s undef)

theorem TRel.ext {P : Program} {w w' : World} {I I' : Nat → Prop} {ρ ρ' : List Nat} {N : Nat} {T : List (Nat × V)} {tmps : Array Value} (h : Ext w I ρ w' I' ρ') (t : TRel P w I ρ N T tmps) : TRel P w' I' ρ' N T tmps :=
  ⟨t.size, fun s v hv => (t.at_ s v hv).ext h⟩

def setT (T : List (Nat × V)) : Option Nat → V → List (Nat × V)
  | some d, v => (d, v) :: T
  | none, _ => T

def dstOk (N : Nat) : Option Nat → Bool
  | some d => Nat.blt d N
  | none => true

theorem TRel.put {P : Program} {w : World} {I : Nat → Prop} {ρ : List Nat} {N : Nat} {T : List (Nat × V)} {a : Act} {dst : Option Nat} {v : V} {u : Value} (hd : dstOk N dst = true)
    (t : TRel P w I ρ N T a.tmps) (hv : RelV P w I ρ v u) : TRel P w I ρ N (setT T dst v) (a.put dst u).tmps := by
  cases dst with
  | none => exact t
  | some d =>
    have hlt : d < N := by simpa [dstOk, Nat.blt, Nat.lt_iff_add_one_le] using hd
    refine ⟨by simp [Act.put, t.size], fun s x hx => ?_⟩
    simp only [setT, lk] at hx
    by_cases hs : d = s
    · subst hs
      simp at hx
      subst hx
      have h1 : d < a.tmps.size := by rw [t.size]; exact hlt
      simpa [Act.put, h1] using hv
    · have hb : Nat.beq d s = false := by
        cases h0 : Nat.beq d s with
        | false => rfl
        | true => exact absurd (Nat.eq_of_beq_eq_true h0) hs
      simp only [hb, cond_false] at hx
      have := t.at_ s x hx
      simpa [Act.put, hs] using this

/-- T says no more than T'. -/
def Sub (T T' : List (Nat × V)) : Prop := ∀ s v, lk T s = some v → lk T' s = some v
theorem TRel.sub {P : Program} {w : World} {I : Nat → Prop} {ρ : List Nat} {N : Nat} {T T' : List (Nat × V)} {tmps : Array Value} (h : Sub T' T) (t : TRel P w I ρ N T tmps) : TRel P w I ρ N T' tmps :=
  ⟨t.size, fun s v hv => t.at_ s v (h s v hv)⟩

def ofScalar : Value → Option PV
  | .bool b => some (.bool b)
  | .int k n => some (.int k n)
  | .string s => some (.str s)
  | .pointer none => some .nilPtr
  | .slice none 0 0 => some .nilSlice
  | .map none => some .nilMap
  | .nilFunc => some .nilFunc
  | .nilIface => some .nilIface
  | _ => none
theorem Rel.scalar {w : World} {I : Nat → Prop} {v : Value} {x : PV} (h : ofScalar v = some x) : Rel w I x v := by
  unfold ofScalar at h
  split at h <;> simp_all <;> subst h <;> simp [Rel]
def ofScalars : List Value → Option (List PV)
  | [] => some []
  | v :: vs => match ofScalar v, ofScalars vs with
    | some x, some xs => some (x :: xs)
    | _, _ => none
theorem RelL.scalars {w : World} {I : Nat → Prop} : ∀ {vs : List Value} {xs : List PV}, ofScalars vs = some xs → RelL w I xs vs
  | [], _, h => by simp [ofScalars] at h; subst h; simp [RelL]
  | v :: vs, xs, h => by
    simp only [ofScalars] at h
    split at h
    · rename_i x ys h1 h2
      simp at h; subst h
      exact ⟨v, vs, rfl, Rel.scalar h1, RelL.scalars h2⟩
    · cases h
def ofVal : Value → Option PV
  | .agg cs => (ofScalars cs.toList).map .agg
  | v => ofScalar v
theorem Rel.val {w : World} {I : Nat → Prop} {v : Value} {x : PV} (h : ofVal v = some x) : Rel w I x v := by
  unfold ofVal at h
  split at h
  · simp at h
    obtain ⟨xs, h1, rfl⟩ := h
    exact ⟨_, rfl, RelL.scalars h1⟩
  · exact Rel.scalar h

/-- An operand's value. -/
def ev (T : List (Nat × V)) : Operand → Option V
  | .tmp t => lk T t
  | .const v => (ofVal v).map .p
  | .func f => some (.p (.func (.func f) [] []))
  | .global _ => none
theorem TRel.ev {P : Program} {w : World} {I : Nat → Prop} {ρ : List Nat} {N : Nat} {T : List (Nat × V)} {a : Act} (t : TRel P w I ρ N T a.tmps) {x : Operand} {v : V} (h : AF.ev T x = some v) : RelV P w I ρ v (a.eval x) := by
  cases x with
  | tmp s => exact t.at_ s v h
  | const c =>
    simp only [AF.ev, Option.map_eq_some_iff] at h
    obtain ⟨y, h1, rfl⟩ := h
    exact Rel.val h1
  | func f =>
    simp only [AF.ev, Option.some.injEq] at h
    subst h
    simp [RelV, Rel, RelL, Act.eval]
  | global g => cases h
def evs (T : List (Nat × V)) : List Operand → Option (List V)
  | [] => some []
  | x :: xs => match ev T x, evs T xs with
    | some v, some vs => some (v :: vs)
    | _, _ => none
theorem TRel.evs {P : Program} {w : World} {I : Nat → Prop} {ρ : List Nat} {N : Nat} {T : List (Nat × V)} {a : Act} (t : TRel P w I ρ N T a.tmps) : ∀ {xs : List Operand} {vs : List V}, AF.evs T xs = some vs → RelVL P w I ρ vs (xs.map a.eval)
  | [], vs, h => by simp [AF.evs] at h; subst h; simp [RelVL]
  | x :: xs, vs, h => by
    simp only [AF.evs] at h
    split at h
    · rename_i y ys h1 h2
      simp at h; subst h
      exact ⟨_, _, rfl, t.ev h1, t.evs h2⟩
    · cases h
end Go.AF
end

/-! ## Steps of the world as the layer AF sees them: new blocks, draws, writes into own blocks, freezing. -/
section
set_option linter.unusedVariables false
set_option linter.unusedSimpArgs false
namespace Go.AF
section
variable {P : Program} {w w' : World} {I : Nat → Prop} {ρ : List Nat} {H : List Blk}

theorem shape_of_block {b : Nat} (h : w'.heap[b]? = w.heap[b]?) : w'.shape? b = w.shape? b := by simp only [World.shape?, h]
theorem heap_alloc_old (w : World) (o : Obj) {b : Nat} (h : b < w.heap.size) : (w.alloc o).heap[b]? = w.heap[b]? := by
  show (w.heap.push o)[b]? = _
  rw [Array.getElem?_push, if_neg (by omega)]
theorem heap_alloc_new (w : World) (o : Obj) : (w.alloc o).heap[w.heap.size]? = some o := by
  show (w.heap.push o)[w.heap.size]? = _
  simp
theorem shape_lt {b : Nat} {s : TypeId × Nat} (h : w.shape? b = some s) : b < w.heap.size := by
  unfold World.shape? at h
  rcases Nat.lt_or_ge b w.heap.size with h' | h'
  · exact h'
  · simp [Array.getElem?_eq_none h'] at h

theorem Ext.drew : Ext w I ρ w.drew I ρ :=
  ⟨⟨rfl, rfl, rfl, Nat.le_refl _, fun _ _ _ => rfl, fun _ _ h => h, fun _ h => h, fun _ _ => rfl, fun _ h => .inl h, fun _ h => .inl h, fun _ h => h, fun _ _ h => h, fun _ h => .inl h⟩, List.prefix_refl _⟩

theorem RelB.dead_of {x : Blk} {b : Nat} (h : x.live = false) : RelB P w I ρ x b := by
  cases x <;> first | trivial | cases h

theorem Inv.same {I' : Nat → Prop} (hi : Inv P w I ρ H) (he : Ext w I ρ w' I' ρ) (hib : ∀ b, I' b → b < w'.heap.size) (hn : ∀ b, b < w.heap.size → I' b → I b) (hb : ∀ b, b < w.heap.size → w'.heap[b]? = w.heap[b]?) : Inv P w' I' ρ H where
  gl := hi.gl.mono he.w.imm he.w.immKeep
  len := hi.len
  bnd i b blk h1 h2 h3 := Nat.lt_of_lt_of_le (hi.bnd i b blk h1 h2 h3) he.w.size
  ib := hib
  live i b blk h1 h2 h3 h4 := hi.live i b blk h1 h2 h3 (hn b (hi.bnd i b blk h1 h2 h3) h4)
  dist := hi.dist
  rel i b blk h1 h2 := by
    cases hl : blk.live with
    | false => exact RelB.dead_of hl
    | true => exact RelB.ext he hi h1 h2 (hb b (hi.bnd i b blk h1 h2 hl))

theorem Inv.drew (hi : Inv P w I ρ H) : Inv P w.drew I ρ H := hi.same Ext.drew (fun b h => hi.ib b h) (fun _ _ h => h) (fun _ _ => rfl)

theorem def_alloc (o : Obj) {b : Nat} (h : w.heap[b]? = some (Obj.deferred (some []))) : (w.alloc o).heap[b]? = some (Obj.deferred (some [])) :=
  (heap_alloc_old w o (Array.getElem?_eq_some_iff.1 h).1).trans h

/-- A new block that nobody will write. -/
theorem Ext.allocImm (hi : Inv P w I ρ H) (o : Obj) (ho : ∀ arr e fr, o = .cells arr e fr → fr = (0, 0)) : Ext w I ρ (w.alloc o) (fun b => I b ∨ b = w.heap.size) ρ :=
  ⟨⟨rfl, rfl, rfl, by simp, fun b hb _ => heap_alloc_old w o hb, fun b s h => (shape_of_block (heap_alloc_old w o (shape_lt h))).trans h, fun _ h => .inl h, fun b h => heap_alloc_old w o (hi.ib b h),
    fun b h => by rcases h with h | h; exact .inl h; exact .inr (.inr (by omega)), fun b h => by
      rcases h with h | h
      · exact .inl h
      · subst h; exact .inr fun arr e fr h2 => .inl (ho arr e fr (Option.some.inj ((heap_alloc_new w o).symm.trans h2))), fun b h => def_alloc o h, fun b h h2 => by
      rcases h2 with h2 | h2
      · exact h2
      · have := (Array.getElem?_eq_some_iff.1 h).1; omega, fun _ h => .inl h⟩, List.prefix_refl _⟩
theorem Inv.allocImm (hi : Inv P w I ρ H) (o : Obj) (ho : ∀ arr e fr, o = .cells arr e fr → fr = (0, 0)) : Inv P (w.alloc o) (fun b => I b ∨ b = w.heap.size) ρ H :=
  hi.same (Ext.allocImm hi o ho) (fun b h => by rcases h with h | h; have := hi.ib b h; simp; omega; simp; omega) (fun b hb h => by rcases h with h | h; exact h; omega)
    (fun b hb => heap_alloc_old w o hb)
/-- A new block of which nothing is known. -/
theorem Ext.allocJunk (hi : Inv P w I ρ H) (o : Obj) : Ext w I ρ (w.alloc o) I ρ :=
  ⟨⟨rfl, rfl, rfl, by simp, fun b hb _ => heap_alloc_old w o hb, fun b s h => (shape_of_block (heap_alloc_old w o (shape_lt h))).trans h, fun _ h => h, fun b h => heap_alloc_old w o (hi.ib b h),
    fun b h => .inl h, fun b h => .inl h, fun b h => def_alloc o h, fun _ _ h => h, fun _ h => .inl h⟩, List.prefix_refl _⟩
theorem Inv.allocJunk (hi : Inv P w I ρ H) (o : Obj) : Inv P (w.alloc o) I ρ H :=
  hi.same (Ext.allocJunk hi o) (fun b h => by have := hi.ib b h; simp; omega) (fun b _ h => h) (fun b hb => heap_alloc_old w o hb)

/-- A new own block. -/
theorem Ext.allocOwn (hi : Inv P w I ρ H) (o : Obj) : Ext w I ρ (w.alloc o) I (ρ ++ [w.heap.size]) :=
  ⟨⟨rfl, rfl, rfl, by simp, fun b hb _ => heap_alloc_old w o hb, fun b s h => (shape_of_block (heap_alloc_old w o (shape_lt h))).trans h, fun _ h => h, fun b h => heap_alloc_old w o (hi.ib b h),
    fun b h => .inl h, fun b h => .inl h, fun b h => def_alloc o h, fun _ _ h => h, fun b h => by
      rcases List.mem_append.1 h with h | h
      · exact .inl h
      · simp at h; exact .inr (by omega)⟩, ⟨_, rfl⟩⟩
theorem get_append_one {α : Type} {l : List α} {x y : α} {i : Nat} (h : (l ++ [x])[i]? = some y) : (i < l.length ∧ l[i]? = some y) ∨ (i = l.length ∧ y = x) := by
  rcases Nat.lt_trichotomy i l.length with h1 | h1 | h1
  · rw [List.getElem?_append_left h1] at h; exact .inl ⟨h1, h⟩
  · subst h1; simp at h; exact .inr ⟨rfl, h.symm⟩
  · rw [List.getElem?_eq_none (by simp; omega)] at h; cases h
theorem Inv.allocOwn (hi : Inv P w I ρ H) (o : Obj) {blk : Blk} (hr : RelB P (w.alloc o) I (ρ ++ [w.heap.size]) blk w.heap.size) : Inv P (w.alloc o) I (ρ ++ [w.heap.size]) (H ++ [blk]) where
  gl := hi.gl.mono (fun _ h => h) (fun b h => heap_alloc_old w o (hi.ib b h))
  len := by simp [hi.len]
  bnd i b x h1 h2 h3 := by
    rcases get_append_one h1 with ⟨h5, h6⟩ | ⟨h5, h6⟩
    · rw [List.getElem?_append_left (by rw [← hi.len]; exact h5)] at h2
      have := hi.bnd i b x h6 h2 h3; simp; omega
    · simp; omega
  ib b h := by have := hi.ib b h; simp; omega
  live i b x h1 h2 h3 h4 := by
    rcases get_append_one h1 with ⟨h5, h6⟩ | ⟨h5, h6⟩
    · rw [List.getElem?_append_left (by rw [← hi.len]; exact h5)] at h2
      exact hi.live i b x h6 h2 h3 h4
    · have := hi.ib b h4; omega
  dist i j b x y h1 h2 h3 h4 h5 h6 := by
    rcases get_append_one h1 with ⟨h7, h8⟩ | ⟨h7, h8⟩ <;> rcases get_append_one h2 with ⟨h9, h10⟩ | ⟨h9, h10⟩
    · rw [List.getElem?_append_left (by rw [← hi.len]; exact h7)] at h3
      rw [List.getElem?_append_left (by rw [← hi.len]; exact h9)] at h4
      exact hi.dist i j b x y h8 h10 h3 h4 h5 h6
    · rw [List.getElem?_append_left (by rw [← hi.len]; exact h7)] at h3
      have := hi.bnd i b x h8 h3 h5; omega
    · rw [List.getElem?_append_left (by rw [← hi.len]; exact h9)] at h4
      have := hi.bnd j b y h10 h4 h6; omega
    · omega
  rel i b x h1 h2 := by
    rcases get_append_one h1 with ⟨h5, h6⟩ | ⟨h5, h6⟩
    · rw [List.getElem?_append_left (by rw [← hi.len]; exact h5)] at h2
      cases hl : x.live with
      | false => exact RelB.dead_of hl
      | true => exact RelB.ext (Ext.allocOwn hi o) hi h6 h2 (heap_alloc_old w o (hi.bnd i b x h6 h2 hl))
    · subst h6
      have : i = H.length := by rw [← hi.len]; exact h5
      subst this
      simp at h2
      subst h2
      exact hr

theorem not_def (hi : Inv P w I ρ H) {i b : Nat} {old : Blk} (hb : ρ[i]? = some b) (hH : H[i]? = some old) (hl : old.live = true) : w.heap[b]? ≠ some (Obj.deferred (some [])) := by
  intro h
  have := hi.rel i b old hb hH
  cases old with
  | cells cs e => obtain ⟨arr, h1, _⟩ := this; rw [h] at h1; cases h1
  | row cs e => obtain ⟨arr, h1, _⟩ := this; rw [h] at h1; cases h1
  | rowF cs e => obtain ⟨arr, m, h1, _⟩ := this; rw [h] at h1; cases h1
  | map ks vs => obtain ⟨es, c, h1, _⟩ := this; rw [h] at h1; cases h1
  | strIter s p => have h1 : w.heap[b]? = _ := this; rw [h] at h1; cases h1
  | mapIter ks vs last =>
    rcases this with ⟨_, _, _, h1⟩ | ⟨r, es, c, seen, h1, _⟩ <;> (rw [h] at h1; cases h1)
  | loop r st pe => obtain ⟨_, ⟨fn, d, h1⟩, _⟩ := this; rw [h] at h1; cases h1
  | dead => cases hl

/-- A write into an own block. -/
theorem Ext.write (hi : Inv P w I ρ H) {i b : Nat} {old : Blk} (hb : ρ[i]? = some b) (hH : H[i]? = some old) (hl : old.live = true) (hos : w'.os = w.os) (htape : w'.tape = w.tape) (hout : w'.output = w.output)
    (hsz : w'.heap.size = w.heap.size) (hother : ∀ k, k ≠ b → w'.heap[k]? = w.heap[k]?) (hsh : ∀ s, w.shape? b = some s → w'.shape? b = some s) : Ext w I ρ w' I ρ :=
  ⟨⟨hos, htape, hout, by omega, fun k _ hn => hother k (fun e => hn (e ▸ List.mem_of_getElem? hb)),
    fun k s h => by
      by_cases e : k = b
      · subst e; exact hsh s h
      · exact (shape_of_block (hother k e)).trans h,
    fun _ h => h, fun k h => hother k (fun e => hi.live i b old hb hH hl (e ▸ h)), fun _ h => .inl h, fun _ h => .inl h, fun k h => (hother k (fun e => not_def hi hb hH hl (e ▸ h))).trans h, fun _ _ h => h, fun _ h => .inl h⟩, List.prefix_refl _⟩
theorem Inv.write (hi : Inv P w I ρ H) {i b : Nat} {old new : Blk} (hb : ρ[i]? = some b) (hH : H[i]? = some old) (hl : old.live = true) (he : Ext w I ρ w' I ρ)
    (hsz : w'.heap.size = w.heap.size) (hother : ∀ k, k ≠ b → w'.heap[k]? = w.heap[k]?) (hr : RelB P w' I ρ new b) : Inv P w' I ρ (H.set i new) where
  gl := hi.gl.mono he.w.imm he.w.immKeep
  len := by simp [hi.len]
  bnd j k x h1 h2 h3 := by
    by_cases e : i = j
    · subst e
      rw [hb] at h1; cases h1
      have := hi.bnd i b old hb hH hl; omega
    · rw [List.getElem?_set_ne e] at h2
      have := hi.bnd j k x h1 h2 h3; omega
  ib k h := by have := hi.ib k h; omega
  live j k x h1 h2 h3 h4 := by
    by_cases e : i = j
    · subst e
      rw [hb] at h1; cases h1
      exact hi.live i b old hb hH hl h4
    · rw [List.getElem?_set_ne e] at h2
      exact hi.live j k x h1 h2 h3 h4
  dist j j' k x y h1 h2 h3 h4 h5 h6 := by
    by_cases e : i = j <;> by_cases e' : i = j'
    · omega
    · subst e
      rw [List.getElem?_set_ne e'] at h4
      exact hi.dist i j' k old y h1 h2 hH h4 hl h6
    · subst e'
      rw [List.getElem?_set_ne e] at h3
      exact hi.dist j i k x old h1 h2 h3 hH h5 hl
    · rw [List.getElem?_set_ne e] at h3
      rw [List.getElem?_set_ne e'] at h4
      exact hi.dist j j' k x y h1 h2 h3 h4 h5 h6
  rel j k x h1 h2 := by
    by_cases e : i = j
    · subst e
      rw [hb] at h1; cases h1
      have : i < H.length := (List.getElem?_eq_some_iff.1 hH).1
      simp [this] at h2
      subst h2
      exact hr
    · rw [List.getElem?_set_ne e] at h2
      by_cases hd : x.live = true
      · have hk : k ≠ b := fun ek => e (hi.dist i j b old x hb (ek ▸ h1) hH h2 hl hd)
        exact RelB.ext he hi h1 h2 (hother k hk)
      · cases x <;> first | trivial | (exact absurd rfl hd)

/-- An own block that nobody will write any more. -/
theorem Ext.freeze (hi : Inv P w I ρ H) {i b : Nat} {old : Blk} (hb : ρ[i]? = some b) (hH : H[i]? = some old) (hl : old.live = true) (hnf : NF w b) : Ext w I ρ w (fun k => I k ∨ k = b) ρ :=
  ⟨⟨rfl, rfl, rfl, Nat.le_refl _, fun _ _ _ => rfl, fun _ _ h => h, fun _ h => .inl h, fun _ _ => rfl, fun k h => by
    rcases h with h | h
    · exact .inl h
    · exact .inr (.inl (h ▸ List.mem_of_getElem? hb)), fun k h => by
    rcases h with h | h
    · exact .inl h
    · exact .inr (h ▸ hnf), fun _ h => h, fun k h h2 => by
    rcases h2 with h2 | h2
    · exact h2
    · exact absurd h (h2 ▸ not_def hi hb hH hl), fun _ h => .inl h⟩, List.prefix_refl _⟩
theorem Inv.freeze (hi : Inv P w I ρ H) {i b : Nat} {old : Blk} (hb : ρ[i]? = some b) (hH : H[i]? = some old) (hl : old.live = true) : Inv P w (fun k => I k ∨ k = b) ρ (H.set i .dead) where
  gl := hi.gl.mono (fun _ h => .inl h) (fun _ _ => rfl)
  len := by simp [hi.len]
  bnd j k x h1 h2 h3 := by
    by_cases e : i = j
    · subst e
      rw [hb] at h1; cases h1
      exact hi.bnd i b old hb hH hl
    · rw [List.getElem?_set_ne e] at h2
      exact hi.bnd j k x h1 h2 h3
  ib k h := by
    rcases h with h | h
    · exact hi.ib k h
    · subst h; exact hi.bnd i _ old hb hH hl
  live j k x h1 h2 h3 h4 := by
    by_cases e : i = j
    · subst e
      have : i < H.length := (List.getElem?_eq_some_iff.1 hH).1
      simp [this] at h2
      subst h2
      cases h3
    · rw [List.getElem?_set_ne e] at h2
      rcases h4 with h4 | h4
      · exact hi.live j k x h1 h2 h3 h4
      · subst h4
        exact e (hi.dist i j k old x hb h1 hH h2 hl h3)
  dist j j' k x y h1 h2 h3 h4 h5 h6 := by
    by_cases e : i = j
    · subst e
      have : i < H.length := (List.getElem?_eq_some_iff.1 hH).1
      simp [this] at h3
      subst h3
      cases h5
    · by_cases e' : i = j'
      · subst e'
        have : i < H.length := (List.getElem?_eq_some_iff.1 hH).1
        simp [this] at h4
        subst h4
        cases h6
      · rw [List.getElem?_set_ne e] at h3
        rw [List.getElem?_set_ne e'] at h4
        exact hi.dist j j' k x y h1 h2 h3 h4 h5 h6
  rel j k x h1 h2 := by
    by_cases e : i = j
    · subst e
      have : i < H.length := (List.getElem?_eq_some_iff.1 hH).1
      simp [this] at h2
      subst h2
      trivial
    · rw [List.getElem?_set_ne e] at h2
      exact RelB.mono (fun _ h => .inl h) (fun _ _ => rfl) (List.prefix_refl _) (fun _ _ _ hs => hs) rfl (hi.rel j k x h1 h2)

/-- Own blocks that are forgotten. -/
theorem Inv.nothing (hi : Inv P w I ρ H) : Inv P w I [] [] :=
  ⟨rfl, (fun _ _ _ h => by simp at h), hi.ib, (fun _ _ _ h => by simp at h), (fun _ _ _ _ _ h => by simp at h), (fun _ _ _ h => by simp at h), hi.gl⟩
/-- A call that knew of no own block. -/
theorem Inv.frame {I' : Nat → Prop} (hi : Inv P w I ρ H) (he : Ext w I [] w' I' []) (hi' : Inv P w' I' [] []) : Ext w I ρ w' I' ρ ∧ Inv P w' I' ρ H := by
  have hk : ∀ b, b < w.heap.size → w'.heap[b]? = w.heap[b]? := fun b hb => he.w.keep b hb (by simp)
  have hn : ∀ b, b < w.heap.size → I' b → I b := fun b hb h => by
    rcases he.w.immNew b h with h | h | h
    · exact h
    · cases h
    · omega
  have hE : Ext w I ρ w' I' ρ := ⟨⟨he.w.os, he.w.tape, he.w.output, he.w.size, fun b hb _ => hk b hb, he.w.shape, he.w.imm, he.w.immKeep, fun b h => by
    rcases he.w.immNew b h with h | h | h
    · exact .inl h
    · cases h
    · exact .inr (.inr h), he.w.nf, he.w.defKeep, he.w.defI, fun _ h => .inl h⟩, List.prefix_refl _⟩
  exact ⟨hE, hi.same hE hi'.ib hn hk⟩
end
end Go.AF
end

/-! ## The walk's judgements over abstract states, and the rules of control. -/
section
set_option linter.unusedVariables false
set_option linter.unusedSimpArgs false
namespace Go.AF

def Fr (R : Option Nat) : Fence := { Fence.wide with round := R }

inductive AX where
  | normal | ret
  | exit (id : Nat)
  | panic (v : V)

def ExR (P : Program) (w : World) (I : Nat → Prop) (ρ : List Nat) : AX → Exit → Prop
  | .normal, .normal => True
  | .ret, .ret => True
  | .exit i, .exit j => i = j
  | .panic v, .panic chain => ∃ u, chain = [{ v := u, recovered := false }] ∧ RelV P w I ρ v u
  | _, _ => False

/-- What a call began with: how many blocks there were, and the own blocks that keep their places. -/
structure Base where
  size : Nat
  pre : List Nat
  defs : List Deferred

/-- The deferred calls are marks of ranges over functions, with nothing behind them; all of them of this call's own. -/
def Marks (κ : Nat) (B : Base) (w : World) (I : Nat → Prop) (ρ : List Nat) (ds : List Deferred) : Prop :=
  B.size ≤ w.heap.size ∧ B.pre.length ≤ κ ∧ B.pre <+: ρ ∧ ∃ rs : List Nat, ds = rs.map (fun r => { target := .collected r, args := #[] }) ++ B.defs ∧ rs.Nodup ∧ ∀ r ∈ rs, w.heap[r]? = some (Obj.deferred (some [])) ∧ ¬ I r ∧ B.size ≤ r

theorem Marks.ext {κ : Nat} {B : Base} {w w' : World} {I I' : Nat → Prop} {ρ ρ' : List Nat} {ds : List Deferred} (h : Ext w I ρ w' I' ρ') (m : Marks κ B w I ρ ds) : Marks κ B w' I' ρ' ds := by
  obtain ⟨hB, hκ, hp, rs, h1, h2, h3⟩ := m
  refine ⟨Nat.le_trans hB h.w.size, hκ, hp.trans h.pre, rs, h1, h2, fun r hr => ?_⟩
  obtain ⟨h4, h5, h6⟩ := h3 r hr
  exact ⟨h.w.defKeep r h4, fun h7 => h5 (h.w.defI r h4 h7), h6⟩

abbrev Tm := List (Nat × V)
abbrev Post := AX → Tm → List Blk → Prop

def QC (κ : Nat) (B : Base) (P : Program) (N : Nat) (Q : Post) (w : World) (I : Nat → Prop) (ρ : List Nat) (e : Exit) (a' : Act) (w' : World) : Prop :=
  ∃ x I' ρ' T' H', ExR P w' I' ρ' x e ∧ Q x T' H' ∧ ExtW w I ρ w' I' ρ' ∧ Inv P w' I' ρ' H' ∧ TRel P w' I' ρ' N T' a'.tmps ∧ Marks κ B w' I' ρ' a'.defers

theorem QC.ext {κ : Nat} {B : Base} {P : Program} {N : Nat} {Q : Post} {w w' : World} {I I' : Nat → Prop} {ρ ρ' : List Nat} (h : ExtW w I ρ w' I' ρ') {e : Exit} {a : Act} {u : World} (q : QC κ B P N Q w' I' ρ' e a u) : QC κ B P N Q w I ρ e a u := by
  obtain ⟨x, J, σ, T, H, h1, h2, h3, h4⟩ := q
  exact ⟨x, J, σ, T, H, h1, h2, h.trans h3, h4⟩

/-- What a piece of code does to an abstract state. -/
def AWp (P : Program) (R : Option Nat) (N κ : Nat) (c : Code) (Q : Post) (T : Tm) (H : List Blk) : Prop :=
  ∀ B w I ρ a, Inv P w I ρ H → TRel P w I ρ N T a.tmps → Marks κ B w I ρ a.defers → c.wpIn (Fr R) 0 P (QC κ B P N Q w I ρ) a w

section
variable {P : Program} {R : Option Nat} {N κ : Nat} {Q Q' : Post} {T T' : Tm} {H : List Blk}

theorem AWp.mono {c : Code} (h : AWp P R N κ c Q T H) (hq : ∀ x T H, Q x T H → Q' x T H) : AWp P R N κ c Q' T H :=
  fun B w I ρ a hi ht hm => wpIn_mono (h B w I ρ a hi ht hm) fun _ _ _ ⟨x, J, σ, T, H, h1, h2, h3⟩ => ⟨x, J, σ, T, H, h1, hq _ _ _ h2, h3⟩
theorem AWp.skip (h : Q .normal T H) : AWp P R N κ .skip Q T H :=
  fun B w I ρ a hi ht hm => wpIn_skip ⟨.normal, I, ρ, T, H, trivial, h, ExtW.refl _ _ _, hi, ht, hm⟩
theorem AWp.ret (h : Q .ret T H) : AWp P R N κ .ret Q T H :=
  fun B w I ρ a hi ht hm => wpIn_ret ⟨.ret, I, ρ, T, H, trivial, h, ExtW.refl _ _ _, hi, ht, hm⟩
theorem AWp.exit {id : Nat} (h : Q (.exit id) T H) : AWp P R N κ (.exit id) Q T H :=
  fun B w I ρ a hi ht hm => wpIn_exit ⟨.exit id, I, ρ, T, H, rfl, h, ExtW.refl _ _ _, hi, ht, hm⟩

def AX.then (next : Tm → List Blk → Prop) (Q : Post) : Post
  | .normal, T, H => next T H
  | x, T, H => Q x T H

theorem AWp.seq {x y : Code} (h : AWp P R N κ x (AX.then (AWp P R N κ y Q) Q) T H) : AWp P R N κ (.seq x y) Q T H := by
  intro B w I ρ a hi ht hm
  refine wpIn_seq (wpIn_mono (h B w I ρ a hi ht hm) ?_)
  rintro e a' w' ⟨z, J, σ, T1, H1, h1, h2, h3, h4, h5, h6⟩
  cases z <;> cases e <;> first | exact h1.elim | skip
  · exact wpIn_mono (h2 B w' J σ a' h4 h5 h6) fun _ _ _ q => QC.ext h3 q
  all_goals exact ⟨_, J, σ, T1, H1, h1, h2, h3, h4, h5, h6⟩

theorem AWp.cond {c : Operand} {x y : Code} (b : Bool) (hc : ev T c = some (.p (.bool b))) (ht : b = true → AWp P R N κ x Q T H) (hf : b = false → AWp P R N κ y Q T H) : AWp P R N κ (.cond c x y) Q T H :=
  fun B w I ρ a hi hT hm => wpIn_cond_split (t := b) (by have := hT.ev hc; simpa [RelV, Rel] using this) (fun h => ht h B w I ρ a hi hT hm) (fun h => hf h B w I ρ a hi hT hm)

def AX.inBlock (id : Nat) (Q : Post) : Post
  | .exit id', T, H => if id' = id then Q .normal T H else Q (.exit id') T H
  | x, T, H => Q x T H

theorem AWp.block {id : Nat} {c : Code} (h : AWp P R N κ c (AX.inBlock id Q) T H) : AWp P R N κ (.block id c) Q T H := by
  intro B w I ρ a hi ht hm
  refine wpIn_block (wpIn_mono (h B w I ρ a hi ht hm) ?_)
  rintro e a' w' ⟨z, J, σ, T1, H1, h1, h2, h3⟩
  cases z <;> cases e <;> first | exact h1.elim | skip
  · exact ⟨.normal, J, σ, T1, H1, h1, h2, h3⟩
  · exact ⟨.ret, J, σ, T1, H1, h1, h2, h3⟩
  · rename_i i j
    obtain rfl : i = j := h1
    simp only [AX.inBlock] at h2
    simp only [Exit.inBlock]
    by_cases e : i = id
    · rw [if_pos e] at h2 ⊢
      exact ⟨.normal, J, σ, T1, H1, trivial, h2, h3⟩
    · rw [if_neg e] at h2 ⊢
      exact ⟨.exit i, J, σ, T1, H1, rfl, h2, h3⟩
  · exact ⟨_, J, σ, T1, H1, h1, h2, h3⟩

end

theorem exists_least (p : Nat → Prop) (h : ∃ n, p n) : ∃ n, p n ∧ ∀ m, p m → n ≤ m := by
  obtain ⟨n, hn⟩ := h
  induction n using Nat.strongRecOn with
  | _ n ih =>
    by_cases hm : ∃ m, m < n ∧ p m
    · obtain ⟨m, h1, h2⟩ := hm
      exact ih m h1 h2
    · exact ⟨n, hn, fun m h => by
        rcases Nat.lt_or_ge m n with h1 | h1
        · exact absurd ⟨m, h1, h⟩ hm
        · exact h1⟩

theorem wpIn_loop_by {γ : Type} {F : Fence} {n : Nat} {P : Program} {c : Code} {Q : Exit → Act → World → Prop} {a : Act} {w : World} (J : γ → Act → World → Prop) (μ : γ → Nat) (g0 : γ) (h0 : J g0 a w)
    (round : ∀ g a w, J g a w → c.wpIn F n P (Exit.then (fun a' w' => ∃ g', J g' a' w' ∧ μ g' < μ g) Q) a w) : (Code.loop c).wpIn F n P Q a w := by
  have hl : ∀ a w, (∃ g, J g a w) → ∃ m, (∃ g, μ g = m ∧ J g a w) ∧ ∀ k, (∃ g, μ g = k ∧ J g a w) → m ≤ k := fun a w ⟨g, hg⟩ => exists_least _ ⟨μ g, g, rfl, hg⟩
  classical
  let M : Act → World → Nat := fun a w => if h : ∃ g, J g a w then Classical.choose (hl a w h) else 0
  have hM : ∀ a w, (∃ g, J g a w) → (∃ g, μ g = M a w ∧ J g a w) ∧ ∀ g, J g a w → M a w ≤ μ g := fun a w h => by
    have h1 := Classical.choose_spec (hl a w h)
    have e : M a w = Classical.choose (hl a w h) := dif_pos h
    rw [e]
    exact ⟨h1.1, fun g hg => h1.2 _ ⟨g, rfl, hg⟩⟩
  refine wpIn_loop (fun a w => ∃ g, J g a w) M ⟨g0, h0⟩ fun a w h => ?_
  obtain ⟨⟨g, hg, hJ⟩, _⟩ := hM a w h
  refine wpIn_mono (round g a w hJ) ?_
  intro e a' w' q
  cases e with
  | normal =>
    obtain ⟨g', h1, h2⟩ := q
    refine ⟨⟨g', h1⟩, ?_⟩
    have := (hM a' w' ⟨g', h1⟩).2 g' h1
    omega
  | _ => exact q

section
variable {P : Program} {R : Option Nat} {N κ : Nat} {Q Q' : Post} {T T' : Tm} {H : List Blk}
/-! ### Operations -/
/-- One operation yields v, and the own blocks are H' then. -/
def OpJ (P : Program) (N : Nat) (o : Oper) (T : Tm) (H : List Blk) (v : V) (H' : List Blk) : Prop :=
  ∀ R w I ρ a, Inv P w I ρ H → TRel P w I ρ N T a.tmps → ∀ (K : Act → World → Prop) (QX : Exit → Act → World → Prop),
    (∀ u w' I' ρ', Ext w I ρ w' I' ρ' → Inv P w' I' ρ' H' → RelV P w' I' ρ' v u → K (a.put o.dst u) w') → o.wpIn (Fr R) 0 P a w K QX

theorem about_wide {o : Oper} {a : Act} {w : World} {R : Option Nat} : ∀ f, o.about P w a.eval = some f → (Fr R).fn f := fun _ _ => trivial

theorem semAt_plain (R : Option Nat) (ρ : Operand → Value) (o : Oper) (h : ∀ c, o.op ≠ .defer c) : o.semAt R ρ = execOp ρ o := Oper.semAt_eq R ρ o h

theorem OpJ.of_run {o : Oper} {v : V} {H' : List Blk} (hop : ∀ c, o.op ≠ .defer c)
    (h : ∀ w I ρ (a : Act), Inv P w I ρ H → TRel P w I ρ N T a.tmps → ∃ u w' I' ρ', ((execOp a.eval o).run P w = .ok (.value u) w' ∨ ((execOp a.eval o).run P w = .ok .skip w' ∧ u = undef)) ∧ Ext w I ρ w' I' ρ' ∧ Inv P w' I' ρ' H' ∧ RelV P w' I' ρ' v u) :
    OpJ P N o T H v H' := by
  intro R w I ρ a hi ht K QX hK
  refine ⟨about_wide, ?_⟩
  rw [semAt_plain _ _ _ hop]
  obtain ⟨u, w', I', ρ', h1, h2, h3, h4⟩ := h w I ρ a hi ht
  rcases h1 with h1 | ⟨h1, rfl⟩
  · rw [h1]; exact hK u w' I' ρ' h2 h3 h4
  · rw [h1]; exact hK undef w' I' ρ' h2 h3 h4

theorem OpJ.of_pure {o : Oper} {v : V} (hop : ∀ c, o.op ≠ .defer c)
    (h : ∀ w I ρ (a : Act), Inv P w I ρ H → TRel P w I ρ N T a.tmps → ∃ u, (execOp a.eval o).run P w = .ok (.value u) w ∧ RelV P w I ρ v u) : OpJ P N o T H v H :=
  OpJ.of_run hop fun w I ρ a hi ht => let ⟨u, h1, h2⟩ := h w I ρ a hi ht; ⟨u, w, I, ρ, .inl h1, Ext.refl _ _ _, hi, h2⟩

/-- The operations of a region that does not draw, in their order. -/
def AList (P : Program) (R : Option Nat) (N κ : Nat) (ops : Array Oper) (l : List Oper) (Q : Post) (T : Tm) (H : List Blk) : Prop :=
  ∀ (QX : Exit → Act → World → Prop) B w I ρ a, Inv P w I ρ H → TRel P w I ρ N T a.tmps → Marks κ B w I ρ a.defers → (∀ e a' w', QC κ B P N Q w I ρ e a' w' → QX e a' w') → wpListIn (Fr R) 0 P ops QX l a w

theorem AWp.region {id : Nat} {l : List Oper} (h : AList P R N κ l.toArray l Q T H) : AWp P R N κ (.region id l.toArray false) Q T H :=
  fun B w I ρ a hi ht hm => wpIn_region_lit (h _ B w I ρ a hi ht hm fun _ _ _ q => q)

theorem AList.nil {ops : Array Oper} (h : Q .normal T H) : AList P R N κ ops [] Q T H :=
  fun QX B w I ρ a hi ht hm hq => wpListIn_nil (hq _ _ _ ⟨.normal, I, ρ, T, H, trivial, h, ExtW.refl _ _ _, hi, ht, hm⟩)

theorem Marks.put {κ : Nat} {B : Base} {w : World} {I : Nat → Prop} {ρ : List Nat} {a : Act} {d : Option Nat} {u : Value} (m : Marks κ B w I ρ a.defers) : Marks κ B w I ρ (a.put d u).defers := by
  cases d <;> exact m

theorem AList.cons {ops : Array Oper} {o : Oper} {rest : List Oper} {v : V} {H' : List Blk} (hg : o.guard = none) (hd : dstOk N o.dst = true) (hop : OpJ P N o T H v H')
    (next : AList P R N κ ops rest Q (setT T o.dst v) H') : AList P R N κ ops (o :: rest) Q T H := by
  intro QX B w I ρ a hi ht hm hq
  refine wpListIn_plain hg fun K hK => hop R w I ρ a hi ht K QX fun u w' I' ρ' he hi' hv => hK _ _ ?_
  exact next QX B w' I' ρ' (a.put o.dst u) hi' ((ht.ext he).put hd hv) ((hm.ext he).put) fun e a2 w2 q => hq e a2 w2 (QC.ext he.w q)

/-- The condition under which an operation is carried out. -/
def gslot (ops : Array Oper) (j : Nat) : Option Nat := (ops[j]?).bind (·.dst)

/-- Whether an operation is carried out, by what its condition's slot holds. -/
def gcond (want : Bool) : V → Option Bool
  | .p (.bool b) => some (b == want)
  | .opt g (.p (.bool b)) => some (g && (b == want))
  | _ => none
theorem yielded_of {ops : Array Oper} {w : World} {I : Nat → Prop} {ρ : List Nat} {j s : Nat} {want c : Bool} {x : V} {tmps : Array Value} (hs : gslot ops j = some s) (ht : TRel P w I ρ N T tmps) (hd : dstOk N (some s) = true) (hb : lk T s = some x) (hc : gcond want x = some c) :
    (yielded ops tmps j == some want) = c := by
  have h1 := ht.at_ s _ hb
  have hlt : s < tmps.size := by
    have h0 : s < N := by simpa [dstOk, Nat.blt, Nat.lt_iff_add_one_le] using hd
    rw [ht.size]; exact h0
  have hget : tmps.getD s undef = tmps[s] := by simp [hlt]
  rw [hget] at h1
  have hb1 : ∀ b : Bool, tmps[s] = .bool b → yielded ops tmps j = some b := fun b h => by
    unfold yielded
    unfold gslot at hs
    rw [hs]
    simp [hlt, h]
  have hb2 : tmps[s] = undef → yielded ops tmps j = none := fun h => by
    unfold yielded
    unfold gslot at hs
    rw [hs]
    simp [hlt, h, undef]
  unfold gcond at hc
  split at hc
  · rename_i b
    simp at hc
    rw [hb1 b h1, ← hc]
    cases b <;> cases want <;> rfl
  · rename_i g b
    simp at hc
    cases g with
    | true => rw [hb1 b (h1.1 rfl), ← hc]; cases b <;> cases want <;> rfl
    | false => rw [hb2 (h1.2 rfl), ← hc]; rfl
  · cases hc

/-- T, where a condition holds. -/
def subG : Tm → Tm → Prop
  | [], _ => True
  | (s, v) :: r, T => (lk T s = some v ∨ ∃ g, lk T s = some (.opt g v) ∧ g = true) ∧ subG r T
theorem TRel.subG {w : World} {I : Nat → Prop} {ρ : List Nat} {tmps : Array Value} (ht : TRel P w I ρ N T tmps) : ∀ {T2 : Tm}, AF.subG T2 T → TRel P w I ρ N T2 tmps
  | [], _ => ⟨ht.size, fun s v h => by cases h⟩
  | (s, v) :: r, h => by
    obtain ⟨h1, h2⟩ := h
    have ih := TRel.subG ht h2
    refine ⟨ht.size, fun s' v' h' => ?_⟩
    simp only [lk] at h'
    cases hb : Nat.beq s s' with
    | false => rw [hb] at h'; exact ih.at_ s' v' h'
    | true =>
      rw [hb] at h'
      have := Nat.eq_of_beq_eq_true hb
      subst this
      simp at h'
      subst h'
      rcases h1 with h1 | ⟨g, h1, h3⟩
      · exact ht.at_ s _ h1
      · exact (ht.at_ s _ h1).1 h3

/-- A guarded operation that leaves the own blocks alone: carried out, or not. -/
theorem AList.guard {ops : Array Oper} {o : Oper} {rest : List Oper} {j s : Nat} {want c : Bool} {x v : V} (hg : o.guard = some (j, want)) (hs : gslot ops j = some s) (hd : dstOk N o.dst = true) (hd' : dstOk N (some s) = true)
    (hb : lk T s = some x) (hc : gcond want x = some c) (T2 : Tm) (h2 : c = true → subG T2 T) (hop : c = true → OpJ P N o T2 H v H)
    (next : AList P R N κ ops rest Q (setT T o.dst (.opt c v)) H) : AList P R N κ ops (o :: rest) Q T H := by
  intro QX B w I ρ a hi ht hm hq
  refine wpListIn_step fun K hK => ?_
  simp only [Region.wanted, hg, yielded_of hs ht hd' hb hc]
  cases c with
  | true =>
    simp only [if_true]
    refine hop rfl R w I ρ a hi (ht.subG (h2 rfl)) K QX fun u w' I' ρ' he hi' hv => hK _ _ ?_
    exact next QX B w' I' ρ' (a.put o.dst u) hi' ((ht.ext he).put hd ⟨fun _ => hv, (fun h => by cases h)⟩) ((hm.ext he).put) fun e a2 w2 q => hq e a2 w2 (QC.ext he.w q)
  | false =>
    simp only [Bool.false_eq_true, if_false]
    refine ⟨about_wide, hK _ _ ?_⟩
    exact next QX B w I ρ (a.put o.dst undef) hi (ht.put hd ⟨(fun h => by cases h), fun _ => rfl⟩) hm.put hq

/-! ### Calls -/
def ACalls (P : Program) (f : FuncId) (args : List V) (H : List Blk) (Q : V → List Blk → Prop) : Prop :=
  ∀ w I ρ us, Inv P w I ρ H → RelVL P w I ρ args us → CallsIn Fence.wide 0 P f us.toArray w fun e w' => ∃ u v I' ρ' H', e = .returned u ∧ Q v H' ∧ Ext w I ρ w' I' ρ' ∧ Inv P w' I' ρ' H' ∧ RelV P w' I' ρ' v u

/-- A pure function: immutable data in, immutable data out. -/
def Pure (P : Program) (f : FuncId) (args : List PV) (r : PV) : Prop := ACalls P f (args.map .p) [] fun v H' => v = .p r ∧ H' = []

/-- The results of a function, at its end. -/
def resV (P : Program) (N : Nat) (fn : Func) (T : Tm) (H : List Blk) (v : V) : Prop :=
  ∀ w I ρ (a : Array Value), Inv P w I ρ H → TRel P w I ρ N T a → ∃ u, (results fn a).run P w = .ok u w ∧ RelV P w I ρ v u

def slotsAt : Nat → List V → Tm
  | _, [] => []
  | k, v :: vs => (k, v) :: slotsAt (k + 1) vs

theorem slotsAt_rel {w : World} {I : Nat → Prop} {ρ : List Nat} : ∀ (vs : List V) (us : List Value) (k : Nat) (pre post : List Value), pre.length = k → RelVL P w I ρ vs us → ∀ s v, lk (slotsAt k vs) s = some v → RelV P w I ρ v ((pre ++ us ++ post).toArray.getD s undef)
  | [], _, _, _, _, _, _, s, v, h => by cases h
  | x :: vs, us, k, pre, post, hk, h, s, v, hv => by
    obtain ⟨u, us', rfl, h1, h2⟩ := h
    simp only [slotsAt, lk] at hv
    cases hb : Nat.beq k s with
    | true =>
      rw [hb] at hv
      have := Nat.eq_of_beq_eq_true hb
      subst this
      simp at hv
      subst hv
      subst hk
      simpa using h1
    | false =>
      rw [hb] at hv
      have := slotsAt_rel vs us' (k + 1) (pre ++ [u]) post (by simp [hk]) h2 s v hv
      simpa using this

theorem RelVL.length {w : World} {I : Nat → Prop} {ρ : List Nat} : ∀ {vs : List V} {us : List Value}, RelVL P w I ρ vs us → us.length = vs.length
  | [], us, h => by simp [RelVL] at h; simp [h]
  | _ :: vs, us, h => by
    obtain ⟨u, us', rfl, _, h2⟩ := h
    simp [RelVL.length h2]

theorem Inv.marks {w w' : World} {I : Nat → Prop} {ρ : List Nat} (hi : Inv P w I ρ H) (hsz : w'.heap.size = w.heap.size) (hI : ∀ b, I b → w'.heap[b]? = w.heap[b]?) (hρ : ∀ b : Nat, w.heap[b]? ≠ some (Obj.deferred (some [])) → w'.heap[b]? = w.heap[b]?) (hs : ∀ b s, w.shape? b = some s → w'.shape? b = some s) : Inv P w' I ρ H :=
  ⟨hi.len, fun i b x h1 h2 h3 => by rw [hsz]; exact hi.bnd i b x h1 h2 h3, fun b h => by rw [hsz]; exact hi.ib b h, hi.live, hi.dist,
    fun i b blk h1 h2 => by
      cases hl : blk.live with
      | false => exact RelB.dead_of hl
      | true => exact RelB.mono (fun _ h => h) hI (List.prefix_refl _) (fun b _ s h => hs b s h) (hρ b (not_def hi h1 h2 hl)) (hi.rel i b blk h1 h2), hi.gl.mono (fun _ h => h) hI⟩

theorem leaves_marks {F : Fence} {fn : Func} {tmps : Array Value} {Rr : Ending → World → Prop} : ∀ (rs : List Nat) (w : World), rs.Nodup → (∀ r ∈ rs, w.heap[r]? = some (Obj.deferred (some []))) →
    (∀ w', (∀ b, b ∉ rs → w'.heap[b]? = w.heap[b]?) → w'.os = w.os → w'.tape = w.tape → w'.output = w.output → w'.heap.size = w.heap.size → ∃ u, (results fn tmps).run P w' = .ok u w' ∧ Rr (.returned u) w') →
    LeavesInM F 0 P fn tmps Rr (rs.map fun r => { target := .collected r, args := #[] }) .returning w := by
  intro rs
  induction rs with
  | nil =>
    intro w _ _ h
    obtain ⟨u, h1, h2⟩ := h w (fun _ _ => rfl) rfl rfl rfl rfl
    simp only [List.map_nil, LeavesInM, LeavesIn]
    exact ⟨u, h1, h2⟩
  | cons r rs ih =>
    intro w hn hr h
    simp only [List.map_cons, LeavesInM]
    refine ⟨by simp, .inl ⟨r, w.putObj r (.deferred none), rfl, run_takeDeferred (hr r (by simp)), ?_⟩⟩
    have hnd := List.nodup_cons.1 hn
    have hput : ∀ b, b ≠ r → (w.putObj r (.deferred none)).heap[b]? = w.heap[b]? := fun b hb => World.putObj_heap_other (fun e => hb e)
    refine ih _ hnd.2 (fun r' h' => (hput r' (fun e => hnd.1 (e ▸ h'))).trans (hr r' (by simp [h']))) ?_
    intro w' h1 h2 h3 h4 h5
    refine h w' (fun b hb => ?_) h2 h3 h4 (by rw [h5]; simp)
    rw [h1 b (fun e => hb (by simp [e])), hput b (fun e => hb (by simp [e]))]

/-- A function's contract, from its body. -/
theorem ACalls.of_body {f : FuncId} {fn : Func} {c : Code} {args : List V} {Qr : V → List Blk → Prop} (hf : P.funcs[f]? = some fn) (hb : fn.body = some c) (hn : args.length ≤ fn.ntmps)
    (h : AWp P none fn.ntmps H.length c (fun x T' H' => (x = .normal ∨ x = .ret) ∧ ∃ v, resV P fn.ntmps fn T' H' v ∧ Qr v H') (slotsAt 0 args) H) : ACalls P f args H Qr := by
  intro w I ρ us hi hus
  have hl := RelVL.length hus
  refine callsIn_of_wp_marks hf hb trivial ?_ rfl
  have ht : TRel P w I ρ fn.ntmps (slotsAt 0 args) (us.toArray ++ Array.replicate (fn.ntmps - us.toArray.size) undef) := by
    refine ⟨by simp; omega, fun s v hv => ?_⟩
    have := slotsAt_rel args us 0 [] (List.replicate (fn.ntmps - us.length) undef) rfl hus s v hv
    have e : us.toArray ++ Array.replicate (fn.ntmps - us.toArray.size) undef = ([] ++ us ++ List.replicate (fn.ntmps - us.length) undef).toArray := by simp
    rw [e]; exact this
  refine wpIn_mono (h ⟨w.heap.size, ρ, []⟩ w I ρ { tmps := us.toArray ++ Array.replicate (fn.ntmps - us.toArray.size) undef, defers := [] } hi ht ⟨Nat.le_refl _, Nat.le_of_eq hi.len, List.prefix_refl _, [], rfl, List.nodup_nil, fun _ h => by cases h⟩) ?_
  rintro e a' w' ⟨z, I', ρ', T', H', h1, ⟨h2, v, hv, hq⟩, h3, h4, h5, hB, _, hpre, rs, h6, h7, h8⟩
  have fin : LeavesInM Fence.wide 0 P fn a'.tmps (fun e w' => ∃ u v I' ρ' H', e = .returned u ∧ Qr v H' ∧ Ext w I ρ w' I' ρ' ∧ Inv P w' I' ρ' H' ∧ RelV P w' I' ρ' v u) a'.defers .returning w' := by
    rw [h6]
    show LeavesInM _ _ _ _ _ _ (_ ++ []) _ _
    rw [List.append_nil]
    refine leaves_marks rs w' h7 (fun r hr => (h8 r hr).1) ?_
    intro w2 k1 k2 k3 k4 k5
    have kI : ∀ b, I' b → w2.heap[b]? = w'.heap[b]? := fun b hb => k1 b (fun hm => (h8 b hm).2.1 hb)
    have kρ : ∀ b : Nat, w'.heap[b]? ≠ some (Obj.deferred (some [])) → w2.heap[b]? = w'.heap[b]? := fun b hb => k1 b (fun hm => hb (h8 b hm).1)
    have ks : ∀ b s, w'.shape? b = some s → w2.shape? b = some s := fun b s hs => by
      refine (shape_of_block (k1 b (fun hm => ?_))).trans hs
      have := (h8 b hm).1
      simp [World.shape?, this] at hs
    have hi2 : Inv P w2 I' ρ' H' := h4.marks k5 kI kρ ks
    have ht2 : TRel P w2 I' ρ' fn.ntmps T' a'.tmps := ⟨h5.size, fun s x hx => RelV.mono (fun _ h => h) kI (List.prefix_refl _) (fun b _ s h => ks b s h) x _ (h5.at_ s x hx)⟩
    obtain ⟨u, hu1, hu2⟩ := hv w2 I' ρ' a'.tmps hi2 ht2
    refine ⟨u, hu1, u, v, I', ρ', H', rfl, hq, ?_, hi2, hu2⟩
    have hlow : ∀ b, b < w.heap.size → w2.heap[b]? = w'.heap[b]? := fun b hb => k1 b (fun hm => by have := (h8 b hm).2.2; simp only at this; omega)
    exact ⟨⟨k2.trans h3.os, k3.trans h3.tape, k4.trans h3.output, by rw [k5]; exact h3.size, fun b hb hn => (hlow b hb).trans (h3.keep b hb hn),
      fun b s hs => ks b s (h3.shape b s hs), h3.imm, fun b hb => (kI b (h3.imm b hb)).trans (h3.immKeep b hb), h3.immNew, fun b hb => (h3.nf b hb).imp_right fun h => h.of (kI b hb), fun b hb => (hlow b (Array.getElem?_eq_some_iff.1 hb).1).trans (h3.defKeep b hb), h3.defI, h3.new⟩, hpre⟩
  rcases h2 with rfl | rfl <;> cases e <;> first | exact h1.elim | exact fin

theorem ACalls.mono {f : FuncId} {args : List V} {Qr Qr' : V → List Blk → Prop} (h : ACalls P f args H Qr) (hq : ∀ v H', Qr v H' → Qr' v H') : ACalls P f args H Qr' :=
  fun w I ρ us hi hus => (h w I ρ us hi hus).mono fun _ _ ⟨u, v, J, σ, H', h1, h2, h3⟩ => ⟨u, v, J, σ, H', h1, hq _ _ h2, h3⟩

/-- Own blocks are forgotten where immutable data is handed back. -/
theorem Pure.of_calls {f : FuncId} {args : List PV} {r : PV} (h : ACalls P f (args.map .p) [] fun v _ => v = .p r) : Pure P f args r := by
  intro w I ρ us hi hus
  have hρ : ρ = [] := List.eq_nil_of_length_eq_zero hi.len
  subst hρ
  refine (h w I [] us hi hus).mono ?_
  rintro e w' ⟨u, v, J, σ, H', h1, rfl, h3, h4, h5⟩
  exact ⟨u, _, J, [], [], h1, ⟨rfl, rfl⟩, ⟨⟨h3.w.os, h3.w.tape, h3.w.output, h3.w.size, h3.w.keep, h3.w.shape, h3.w.imm, h3.w.immKeep, h3.w.immNew, h3.w.nf, h3.w.defKeep, h3.w.defI, (fun _ h => by cases h)⟩, List.prefix_refl _⟩, h4.nothing, h5⟩

/-- A pure function, from its body. -/
theorem Pure.of_body {f : FuncId} {fn : Func} {c : Code} {args : List PV} {r : PV} (hf : P.funcs[f]? = some fn) (hb : fn.body = some c) (hn : args.length ≤ fn.ntmps)
    (h : AWp P none fn.ntmps 0 c (fun x T' H' => (x = .normal ∨ x = .ret) ∧ resV P fn.ntmps fn T' H' (.p r)) (slotsAt 0 (args.map .p)) []) : Pure P f args r :=
  Pure.of_calls (ACalls.of_body hf hb (by simpa using hn) (h.mono fun x T H ⟨h1, h2⟩ => ⟨h1, _, h2, rfl⟩))
end
end Go.AF
end

/-! ## The operations on plain values and on memory, each as one judgement over abstract states. -/
section
set_option linter.unusedVariables false
set_option linter.unusedSimpArgs false
namespace Go.AF
section
variable {P : Program} {R : Option Nat} {N κ : Nat} {Q Q' : Post} {T T' : Tm} {H : List Blk} {o : Oper}

/-! ### Plain operations -/
theorem OpJ.move {x : Operand} {v : V} (ho : o.op = .move x) (hx : ev T x = some v) : OpJ P N o T H v H :=
  OpJ.of_pure (by simp [ho]) fun w I ρ a hi ht => ⟨a.eval x, by simp [execOp, ho], ht.ev hx⟩
theorem OpJ.assign {x : Operand} {v : V} (ho : o.op = .assign x) (hx : ev T x = some v) : OpJ P N o T H v H :=
  OpJ.of_pure (by simp [ho]) fun w I ρ a hi ht => ⟨a.eval x, by simp [execOp, ho], ht.ev hx⟩

theorem ev_bool {w : World} {I : Nat → Prop} {ρ : List Nat} {a : Act} (ht : TRel P w I ρ N T a.tmps) {x : Operand} {b : Bool} (h : ev T x = some (.p (.bool b))) : a.eval x = .bool b := by
  have := ht.ev h; simpa [RelV, Rel] using this
theorem ev_int {w : World} {I : Nat → Prop} {ρ : List Nat} {a : Act} (ht : TRel P w I ρ N T a.tmps) {x : Operand} {k : IntKind} {n : Int} (h : ev T x = some (.p (.int k n))) : a.eval x = .int k n := by
  have := ht.ev h; simpa [RelV, Rel] using this
theorem ev_str {w : World} {I : Nat → Prop} {ρ : List Nat} {a : Act} (ht : TRel P w I ρ N T a.tmps) {x : Operand} {s : ByteArray} (h : ev T x = some (.p (.str s))) : a.eval x = .string s := by
  have := ht.ev h; simpa [RelV, Rel] using this

/-- 'a && b', where b was reckoned only if a holds. -/
theorem OpJ.and_ {c x : Operand} {b g d : Bool} (ho : o.op = .pick c x (.const (.bool false))) (hc : ev T c = some (.p (.bool b))) (hx : ev T x = some (.opt g (.p (.bool d)))) (hg : b = true → g = true) : OpJ P N o T H (.p (.bool (b && d))) H :=
  OpJ.of_pure (by simp [ho]) fun w I ρ a hi ht => by
    have h1 := ev_bool ht hc
    have h2 := ht.ev hx
    refine ⟨.bool (b && d), ?_, by simp [RelV, Rel]⟩
    cases b with
    | false =>
      have hk : a.eval (.const (.bool false)) = .bool false := rfl
      simp [execOp, ho, h1, asBool, hk]
    | true =>
      have h3 := h2.1 (hg rfl)
      simp only [RelV, Rel] at h3
      simp [execOp, ho, h1, asBool, h3]
/-- 'a || b', where b was reckoned only if a does not hold. -/
theorem OpJ.or_ {c y : Operand} {b g d : Bool} (ho : o.op = .pick c (.const (.bool true)) y) (hc : ev T c = some (.p (.bool b))) (hy : ev T y = some (.opt g (.p (.bool d)))) (hg : b = false → g = true) : OpJ P N o T H (.p (.bool (b || d))) H :=
  OpJ.of_pure (by simp [ho]) fun w I ρ a hi ht => by
    have h1 := ev_bool ht hc
    have h2 := ht.ev hy
    refine ⟨.bool (b || d), ?_, by simp [RelV, Rel]⟩
    cases b with
    | true =>
      have hk : a.eval (.const (.bool true)) = .bool true := rfl
      simp [execOp, ho, h1, asBool, hk]
    | false =>
      have h3 := h2.1 (hg rfl)
      simp only [RelV, Rel] at h3
      simp [execOp, ho, h1, asBool, h3]
theorem OpJ.not_ {x : Operand} {t : TypeId} {b : Bool} (ho : o.op = .unOp .not t x) (hx : ev T x = some (.p (.bool b))) : OpJ P N o T H (.p (.bool (!b))) H :=
  OpJ.of_pure (by simp [ho]) fun w I ρ a hi ht => ⟨.bool (!b), by simp [execOp, ho, ev_bool ht hx, Op.unary], by simp [RelV, Rel]⟩
theorem eqGuard_int (op : BinOp) (t : TypeId) (x y : Operand) (k k' : IntKind) (a b : Int) (w : World) : (eqGuard op t x y (.int k a) (.int k' b)).run P w = .ok () w := by
  cases op <;> simp [eqGuard]
theorem OpJ.int2 {op : BinOp} {x y : Operand} {t t' : TypeId} {k : IntKind} {a b : Int} {r : PV} (ho : o.op = .binOp op t x y t') (hx : ev T x = some (.p (.int k a))) (hy : ev T y = some (.p (.int k b)))
    (hr : ∀ w I, ∃ u, (Go.binOp op t (.int k a) (.int k b)).run P w = .ok u w ∧ Rel w I r u) : OpJ P N o T H (.p r) H :=
  OpJ.of_pure (by simp [ho]) fun w I ρ ac hi ht => by
    obtain ⟨u, h1, h2⟩ := hr w I
    exact ⟨u, by simp [execOp, ho, ev_int ht hx, ev_int ht hy, eqGuard_int, h1], h2⟩
theorem OpJ.add {x y : Operand} {t t' : TypeId} {k : IntKind} {a b m : Int} (ho : o.op = .binOp .add t x y t') (hx : ev T x = some (.p (.int k a))) (hy : ev T y = some (.p (.int k b))) (hw : k.wrap (a + b) = m) : OpJ P N o T H (.p (.int k m)) H :=
  OpJ.int2 ho hx hy fun w I => ⟨.int k m, by simp [Go.binOp, Op.intArith, hw], by simp [Rel]⟩
theorem OpJ.sub_ {x y : Operand} {t t' : TypeId} {k : IntKind} {a b m : Int} (ho : o.op = .binOp .sub t x y t') (hx : ev T x = some (.p (.int k a))) (hy : ev T y = some (.p (.int k b))) (hw : k.wrap (a - b) = m) : OpJ P N o T H (.p (.int k m)) H :=
  OpJ.int2 ho hx hy fun w I => ⟨.int k m, by simp [Go.binOp, Op.intArith, hw], by simp [Rel]⟩
theorem OpJ.mul {x y : Operand} {t t' : TypeId} {k : IntKind} {a b m : Int} (ho : o.op = .binOp .mul t x y t') (hx : ev T x = some (.p (.int k a))) (hy : ev T y = some (.p (.int k b))) (hw : k.wrap (a * b) = m) : OpJ P N o T H (.p (.int k m)) H :=
  OpJ.int2 ho hx hy fun w I => ⟨.int k m, by simp [Go.binOp, Op.intArith, hw], by simp [Rel]⟩
theorem OpJ.quo {x y : Operand} {t t' : TypeId} {k : IntKind} {a b m : Int} (ho : o.op = .binOp .quo t x y t') (hx : ev T x = some (.p (.int k a))) (hy : ev T y = some (.p (.int k b))) (hb : b ≠ 0) (hw : k.wrap (a.tdiv b) = m) : OpJ P N o T H (.p (.int k m)) H :=
  OpJ.int2 ho hx hy fun w I => ⟨.int k m, by simp [Go.binOp, Op.intDiv, hb, hw], by simp [Rel]⟩
theorem OpJ.rem {x y : Operand} {t t' : TypeId} {k : IntKind} {a b m : Int} (ho : o.op = .binOp .rem t x y t') (hx : ev T x = some (.p (.int k a))) (hy : ev T y = some (.p (.int k b))) (hb : b ≠ 0) (hw : a.tmod b = m) : OpJ P N o T H (.p (.int k m)) H :=
  OpJ.int2 ho hx hy fun w I => ⟨.int k m, by simp [Go.binOp, Op.intDiv, hb, hw], by simp [Rel]⟩
theorem OpJ.lss {x y : Operand} {t t' : TypeId} {k : IntKind} {a b : Int} (ho : o.op = .binOp .lss t x y t') (hx : ev T x = some (.p (.int k a))) (hy : ev T y = some (.p (.int k b))) : OpJ P N o T H (.p (.bool (decide (a < b)))) H :=
  OpJ.int2 ho hx hy fun w I => ⟨.bool (decide (a < b)), by simp [Go.binOp, Op.intCmp], by simp [Rel]⟩
theorem OpJ.leq {x y : Operand} {t t' : TypeId} {k : IntKind} {a b : Int} (ho : o.op = .binOp .leq t x y t') (hx : ev T x = some (.p (.int k a))) (hy : ev T y = some (.p (.int k b))) : OpJ P N o T H (.p (.bool (decide (a ≤ b)))) H :=
  OpJ.int2 ho hx hy fun w I => ⟨.bool (decide (a ≤ b)), by simp [Go.binOp, Op.intCmp], by simp [Rel]⟩
theorem OpJ.gtr {x y : Operand} {t t' : TypeId} {k : IntKind} {a b : Int} (ho : o.op = .binOp .gtr t x y t') (hx : ev T x = some (.p (.int k a))) (hy : ev T y = some (.p (.int k b))) : OpJ P N o T H (.p (.bool (decide (b < a)))) H :=
  OpJ.int2 ho hx hy fun w I => ⟨.bool (decide (b < a)), by simp [Go.binOp, Op.intCmp], by simp [Rel]⟩
theorem OpJ.geq {x y : Operand} {t t' : TypeId} {k : IntKind} {a b : Int} (ho : o.op = .binOp .geq t x y t') (hx : ev T x = some (.p (.int k a))) (hy : ev T y = some (.p (.int k b))) : OpJ P N o T H (.p (.bool (decide (b ≤ a)))) H :=
  OpJ.int2 ho hx hy fun w I => ⟨.bool (decide (b ≤ a)), by simp [Go.binOp, Op.intCmp], by simp [Rel]⟩
theorem OpJ.eql {x y : Operand} {t t' : TypeId} {k : IntKind} {a b : Int} (ho : o.op = .binOp .eql t x y t') (hx : ev T x = some (.p (.int k a))) (hy : ev T y = some (.p (.int k b))) : OpJ P N o T H (.p (.bool (decide (a = b)))) H :=
  OpJ.int2 ho hx hy fun w I => ⟨.bool (decide (a = b)), by simp [Go.binOp, Op.intCmp]; rfl, by simp [Rel]⟩
theorem OpJ.neq {x y : Operand} {t t' : TypeId} {k : IntKind} {a b : Int} (ho : o.op = .binOp .neq t x y t') (hx : ev T x = some (.p (.int k a))) (hy : ev T y = some (.p (.int k b))) : OpJ P N o T H (.p (.bool (!decide (a = b)))) H :=
  OpJ.int2 ho hx hy fun w I => ⟨.bool (!decide (a = b)), by simp [Go.binOp, Op.intCmp]; rfl, by simp [Rel]⟩
/-- Bits: whatever the model says. -/
theorem OpJ.bits {op : BinOp} {x y : Operand} {t t' : TypeId} {k : IntKind} {a b m : Int} (ho : o.op = .binOp op t x y t') (hop : op = .and ∨ op = .or ∨ op = .xor ∨ op = .andNot) (hx : ev T x = some (.p (.int k a))) (hy : ev T y = some (.p (.int k b)))
    (hm : ∀ w, (Op.intBits op k a b).run P w = .ok (.int k m) w) : OpJ P N o T H (.p (.int k m)) H :=
  OpJ.int2 ho hx hy fun w I => ⟨.int k m, by rcases hop with rfl | rfl | rfl | rfl <;> simp [Go.binOp, hm], by simp [Rel]⟩
theorem OpJ.shl {x y : Operand} {t t' : TypeId} {k k' : IntKind} {a b m : Int} (ho : o.op = .binOp .shl t x y t') (hx : ev T x = some (.p (.int k a))) (hy : ev T y = some (.p (.int k' b))) (hb : 0 ≤ b) (hw : k.wrap (a * 2 ^ (min b.toNat k.bits)) = m) : OpJ P N o T H (.p (.int k m)) H :=
  OpJ.of_pure (by simp [ho]) fun w I ρ ac hi ht => ⟨.int k m, by simp [execOp, ho, ev_int ht hx, ev_int ht hy, eqGuard_int, Go.binOp, Op.shift, Int.not_lt.2 hb, hw], by simp [RelV, Rel]⟩
theorem OpJ.shr {x y : Operand} {t t' : TypeId} {k k' : IntKind} {a b m : Int} (ho : o.op = .binOp .shr t x y t') (hx : ev T x = some (.p (.int k a))) (hy : ev T y = some (.p (.int k' b))) (hb : 0 ≤ b) (hw : a.fdiv (2 ^ (min b.toNat k.bits)) = m) : OpJ P N o T H (.p (.int k m)) H :=
  OpJ.of_pure (by simp [ho]) fun w I ρ ac hi ht => ⟨.int k m, by simp [execOp, ho, ev_int ht hx, ev_int ht hy, eqGuard_int, Go.binOp, Op.shift, Int.not_lt.2 hb, hw], by simp [RelV, Rel]⟩

/-! ### Types -/
def isAggD : TypeDesc → Bool
  | .struct _ => true
  | .array _ _ => true
  | _ => false
/-- Is a type's value an aggregate, and how many cells it has. -/
def tyI (P : Program) (t : TypeId) : Option (Bool × Nat) :=
  match P.underlying t, P.info? t with
  | some d, some i => some (isAggD d, i.size)
  | _, _ => none
theorem tyI_some {t : TypeId} {b : Bool} {n : Nat} (h : tyI P t = some (b, n)) : ∃ d i, P.underlying t = some d ∧ P.info? t = some i ∧ isAggD d = b ∧ i.size = n := by
  unfold tyI at h
  split at h
  · rename_i d i h1 h2
    simp at h
    exact ⟨d, i, h1, h2, h.1, h.2⟩
  · cases h
theorem run_isAgg' {t : TypeId} {b : Bool} {n : Nat} (h : tyI P t = some (b, n)) (w : World) : (isAgg t).run P w = .ok b w := by
  obtain ⟨d, i, h1, h2, rfl, h4⟩ := tyI_some h
  simp only [isAgg, Sem.run_bind, run_underlying h1, Result.andThen]
  cases d <;> rfl
theorem run_sizeOf' {t : TypeId} {b : Bool} {n : Nat} (h : tyI P t = some (b, n)) (w : World) : (sizeOf t).run P w = .ok n w := by
  obtain ⟨d, i, h1, h2, h3, h4⟩ := tyI_some h
  rw [run_sizeOf w h2]
  simp [Program.cellsOf, h2, h4]

theorem add_none (b o n : Nat) : (⟨b, o, none⟩ : Addr).add n = ⟨b, o + n, none⟩ := by
  unfold Addr.add
  split
  · rename_i h; subst h; rfl
  · rfl

theorem RelAt.get {w : World} {I : Nat → Prop} : ∀ {cs : List PV} {b o : Nat} {i : Nat} {c : PV}, RelAt w I cs b o → cs[i]? = some c → ∃ u, w.cell? ⟨b, o + i, none⟩ = some u ∧ Rel w I c u
  | [], _, _, _, _, _, h => by simp at h
  | x :: cs, b, o, 0, c, h, hc => by
    simp at hc; subst hc
    exact h.1
  | x :: cs, b, o, i + 1, c, h, hc => by
    simp at hc
    have := RelAt.get h.2 hc
    rwa [show o + 1 + i = o + (i + 1) by omega] at this
theorem RelAt.drop {w : World} {I : Nat → Prop} : ∀ {cs : List PV} {b o : Nat} (k : Nat), RelAt w I cs b o → RelAt w I (cs.drop k) b (o + k)
  | cs, _, _, 0, h => h
  | [], _, _, k + 1, h => by simp [RelAt]
  | x :: cs, b, o, k + 1, h => by
    have := RelAt.drop k h.2
    rw [show o + 1 + k = o + (k + 1) by omega] at this
    simpa using this
theorem RelAt.list {w : World} {I : Nat → Prop} : ∀ {cs : List PV} {b o : Nat}, RelAt w I cs b o → ∃ us : List Value, RelL w I cs us ∧ us.length = cs.length ∧ ∀ j v, us[j]? = some v → w.cell? ⟨b, o + j, none⟩ = some v
  | [], b, o, h => ⟨[], by simp [RelL], rfl, fun j v h => by simp at h⟩
  | x :: cs, b, o, h => by
    obtain ⟨⟨u, h1, h2⟩, h3⟩ := h
    obtain ⟨us, h4, h5, h6⟩ := RelAt.list h3
    refine ⟨u :: us, ⟨u, us, rfl, h2, h4⟩, by simp [h5], fun j v hj => ?_⟩
    cases j with
    | zero => simp at hj; subst hj; exact h1
    | succ j =>
      simp at hj
      have := h6 j v hj
      rwa [show o + 1 + j = o + (j + 1) by omega] at this
theorem RelAt.take {w : World} {I : Nat → Prop} : ∀ {cs : List PV} {b o : Nat} (k : Nat), RelAt w I cs b o → RelAt w I (cs.take k) b o
  | cs, _, _, 0, h => by simp [RelAt]
  | [], _, _, k + 1, h => by simp [RelAt]
  | x :: cs, b, o, k + 1, h => by
    simp only [List.take_succ_cons]
    exact ⟨h.1, RelAt.take k h.2⟩

theorem RelVL.pure {w : World} {I : Nat → Prop} {ρ : List Nat} : ∀ {xs : List PV} {us : List Value}, RelVL P w I ρ (xs.map .p) us ↔ RelL w I xs us
  | [], us => by simp [RelVL, RelL]
  | x :: xs, us => by
    simp only [List.map_cons, RelVL, RelL, RelV]
    constructor
    · rintro ⟨u, us', h1, h2, h3⟩; exact ⟨u, us', h1, h2, RelVL.pure.1 h3⟩
    · rintro ⟨u, us', h1, h2, h3⟩; exact ⟨u, us', h1, h2, RelVL.pure.2 h3⟩
def allP : List V → Option (List PV)
  | [] => some []
  | .p x :: vs => match allP vs with
    | some xs => some (x :: xs)
    | none => none
  | _ :: _ => none
theorem allP_some : ∀ {vs : List V} {xs : List PV}, allP vs = some xs → vs = xs.map .p
  | [], xs, h => by simp [allP] at h; simp [← h]
  | v :: vs, xs, h => by
    cases v <;> simp only [allP] at h <;> try cases h
    rename_i x
    cases h1 : allP vs with
    | none => rw [h1] at h; cases h
    | some ys => rw [h1] at h; simp at h; subst h; simp [allP_some h1]
def aggOf (vs : List V) : V := match allP vs with
  | some xs => .p (.agg xs)
  | none => .agg vs
theorem RelV.aggOf {w : World} {I : Nat → Prop} {ρ : List Nat} {vs : List V} {us : Array Value} (h : RelVL P w I ρ vs us.toList) : RelV P w I ρ (aggOf vs) (.agg us) := by
  unfold AF.aggOf
  cases hp : allP vs with
  | none => exact ⟨us, rfl, h⟩
  | some xs => rw [allP_some hp] at h; exact ⟨us, rfl, RelVL.pure.1 h⟩
theorem RelVL.drop {w : World} {I : Nat → Prop} {ρ : List Nat} : ∀ {vs : List V} {us : List Value} (k : Nat), RelVL P w I ρ vs us → RelVL P w I ρ (vs.drop k) (us.drop k)
  | vs, us, 0, h => by simpa using h
  | [], us, k + 1, h => by simp [RelVL] at h; simp [h, RelVL]
  | v :: vs, us, k + 1, h => by
    obtain ⟨u, us', rfl, _, h3⟩ := h
    simpa using RelVL.drop k h3
theorem RelVL.take {w : World} {I : Nat → Prop} {ρ : List Nat} : ∀ {vs : List V} {us : List Value} (k : Nat), RelVL P w I ρ vs us → RelVL P w I ρ (vs.take k) (us.take k)
  | vs, us, 0, h => by simp [RelVL]
  | [], us, k + 1, h => by simp [RelVL] at h; simp [h, RelVL]
  | v :: vs, us, k + 1, h => by
    obtain ⟨u, us', rfl, h2, h3⟩ := h
    exact ⟨u, _, rfl, h2, RelVL.take k h3⟩
theorem RelVL.get {w : World} {I : Nat → Prop} {ρ : List Nat} : ∀ {vs : List V} {us : List Value} {i : Nat} {v : V}, RelVL P w I ρ vs us → vs[i]? = some v → ∃ u, us[i]? = some u ∧ RelV P w I ρ v u
  | [], us, i, v, h, hv => by simp at hv
  | x :: vs, us, 0, v, h, hv => by
    obtain ⟨u, us', rfl, h2, h3⟩ := h
    simp at hv; subst hv
    exact ⟨u, rfl, h2⟩
  | x :: vs, us, i + 1, v, h, hv => by
    obtain ⟨u, us', rfl, h2, h3⟩ := h
    simp at hv
    simpa using RelVL.get h3 hv
theorem RelVL.set {w : World} {I : Nat → Prop} {ρ : List Nat} {v : V} {u : Value} (hv : RelV P w I ρ v u) : ∀ {vs : List V} {us : List Value} (i : Nat), RelVL P w I ρ vs us → RelVL P w I ρ (vs.set i v) (us.set i u)
  | [], us, i, h => by simp [RelVL] at h; simp [h, RelVL]
  | x :: vs, us, 0, h => by
    obtain ⟨u', us', rfl, h2, h3⟩ := h
    exact ⟨u, us', rfl, hv, h3⟩
  | x :: vs, us, i + 1, h => by
    obtain ⟨u', us', rfl, h2, h3⟩ := h
    exact ⟨u', _, rfl, h2, RelVL.set hv i h3⟩

/-! ### Loads -/
def blkCells : Option Blk → Option (List V)
  | some (.cells cs _) => some cs
  | some (.row cs _) => some cs
  | _ => none
def aload (H : List Blk) (b : Bool) (n : Nat) : V → Option V
  | .p (.ip cs off) => if b then (if off + n ≤ cs.length then some (.p (.agg ((cs.drop off).take n))) else none) else (cs[off]?).map .p
  | .ptr i off => match blkCells H[i]? with
    | some cs => if b then (if off + n ≤ cs.length then some (aggOf ((cs.drop off).take n)) else none) else cs[off]?
    | none => none
  | _ => none

theorem run_loadVar' {t : TypeId} {b : Bool} {n : Nat} {w : World} {blk off : Nat} (ht : tyI P t = some (b, n)) {us : List Value} (hl : b = true → us.length = n) (h0 : b = false → us.length = 1) (hc : ∀ j v, us[j]? = some v → w.cell? ⟨blk, off + j, none⟩ = some v) :
    (loadVar t ⟨blk, off, none⟩).run P w = .ok (if b then .agg us.toArray else us.getD 0 undef) w := by
  cases b with
  | true =>
    have := run_loadCells_list (P := P) w ⟨blk, off, none⟩ us (fun j v hj => by rw [add_none]; exact hc j v hj)
    rw [hl rfl] at this
    simp [loadVar, run_isAgg' ht, run_sizeOf' ht, this]
  | false =>
    have h1 := h0 rfl
    match us, h1 with
    | [u], _ =>
      have := hc 0 u rfl
      simp at this
      simp [loadVar, run_isAgg' ht, this]

/-- What an own block's cells hold. -/
theorem own_cells {w : World} {I : Nat → Prop} {ρ : List Nat} {i : Nat} {cs : List V} (hi : Inv P w I ρ H) (hc : blkCells H[i]? = some cs) :
    ∃ b arr e, ρ[i]? = some b ∧ w.heap[b]? = some (.cells arr e (0, 0)) ∧ cs.length ≤ arr.size ∧ RelVL P w I ρ cs (arr.toList.take cs.length) := by
  unfold blkCells at hc
  split at hc
  all_goals first
    | cases hc; done
    | (rename_i e hH
       have hlt : i < H.length := (List.getElem?_eq_some_iff.1 hH).1
       have hρ : ρ[i]? = some (ρ[i]'(by rw [hi.len]; exact hlt)) := List.getElem?_eq_getElem _
       cases hc
       have := hi.rel i _ _ hρ hH
       first
         | (obtain ⟨arr, h1, h2, h3⟩ := this; exact ⟨_, arr, e, hρ, h1, h2, h3⟩)
         | (obtain ⟨arr, h1, h2⟩ := this
            have hl := RelVL.length h2
            exact ⟨_, arr, e, hρ, h1, by simpa using Nat.le_of_eq hl.symm, by rw [← hl, List.take_length]; exact h2⟩))

theorem RelVL.p_one {w : World} {I : Nat → Prop} {ρ : List Nat} {v : V} {us : List Value} (h : RelVL P w I ρ [v] us) : ∃ u, us = [u] ∧ RelV P w I ρ v u := by
  obtain ⟨u, us', rfl, h2, h3⟩ := h
  simp [RelVL] at h3
  subst h3
  exact ⟨u, rfl, h2⟩

theorem run_aload {w : World} {I : Nat → Prop} {ρ : List Nat} {t : TypeId} {b : Bool} {n : Nat} {p v : V} {u : Value} (ht : tyI P t = some (b, n)) (hi : Inv P w I ρ H) (hp : RelV P w I ρ p u) (h : aload H b n p = some v) :
    ∃ a u', u = .pointer (some a) ∧ (loadVar t a).run P w = .ok u' w ∧ RelV P w I ρ v u' := by
  unfold aload at h
  split at h
  · rename_i cs off
    obtain ⟨blk, o', hb, hu, hat⟩ := hp
    cases b with
    | true =>
      simp only [if_true] at h
      split at h
      · rename_i hle
        simp at h; subst h
        obtain ⟨us, h1, h2, h3⟩ := RelAt.list (RelAt.take n (RelAt.drop off hat))
        have hlen : us.length = n := by rw [h2]; simp; omega
        refine ⟨_, _, hu, run_loadVar' ht (us := us) (fun _ => hlen) (fun h => by cases h) h3, ?_⟩
        exact ⟨us.toArray, rfl, by simpa using h1⟩
      · cases h
    | false =>
      simp only [Bool.false_eq_true, if_false, Option.map_eq_some_iff] at h
      obtain ⟨c, hc, rfl⟩ := h
      obtain ⟨u', h1, h2⟩ := RelAt.get hat hc
      refine ⟨_, _, hu, run_loadVar' ht (us := [u']) (fun h => by cases h) (fun _ => rfl) (fun j v hj => ?_), h2⟩
      match j, hj with
      | 0, hj => simp at hj; subst hj; simpa using h1
  · rename_i i off
    obtain ⟨blk, hρ, hu⟩ := hp
    cases hc : blkCells H[i]? with
    | none => rw [hc] at h; cases h
    | some cs =>
      rw [hc] at h
      obtain ⟨blk', arr, e, hρ', hw, hl, hrel⟩ := own_cells hi hc
      rw [hρ] at hρ'; cases hρ'
      have hcell : ∀ j v, (arr.toList)[j]? = some v → w.cell? ⟨blk, j, none⟩ = some v := fun j v hj => by simp [World.cell?, hw]; simpa using hj
      cases b with
      | true =>
        simp only [if_true] at h
        split at h
        · rename_i hle
          simp at h; subst h
          have h1 : RelVL P w I ρ ((cs.drop off).take n) (((arr.toList.take cs.length).drop off).take n) := (hrel.drop off).take n
          have h2 : ((arr.toList.take cs.length).drop off).take n = (arr.toList.drop off).take n := by
            rw [List.drop_take, List.take_take]
            congr 1
            omega
          rw [h2] at h1
          have hlen : ((arr.toList.drop off).take n).length = n := by simp; omega
          refine ⟨_, _, hu, run_loadVar' ht (us := (arr.toList.drop off).take n) (fun _ => hlen) (fun h => by cases h) (fun j v hj => ?_), RelV.aggOf (by simpa using h1)⟩
          rw [List.getElem?_take] at hj
          split at hj
          · rw [List.getElem?_drop] at hj; exact hcell _ _ hj
          · cases hj
        · cases h
      | false =>
        simp only [Bool.false_eq_true, if_false] at h
        obtain ⟨u', h1, h2⟩ := RelVL.get hrel h
        have h3 : arr.toList[off]? = some u' := by
          rw [List.getElem?_take] at h1
          split at h1
          · exact h1
          · cases h1
        refine ⟨_, _, hu, run_loadVar' ht (us := [u']) (fun h => by cases h) (fun _ => rfl) (fun j v hj => ?_), h2⟩
        match j, hj with
        | 0, hj => simp at hj; subst hj; exact hcell _ _ (by simpa using h3)
  · cases h

theorem OpJ.load {x : Operand} {t : TypeId} {b : Bool} {n : Nat} {p v : V} (ho : o.op = .load t x) (hx : ev T x = some p) (ht : tyI P t = some (b, n)) (hl : aload H b n p = some v) : OpJ P N o T H v H :=
  OpJ.of_pure (by simp [ho]) fun w I ρ a hi hT => by
    obtain ⟨ad, u', h1, h2, h3⟩ := run_aload ht hi (hT.ev hx) hl
    exact ⟨u', by simp [execOp, ho, Instr.loadAt, h1, Instr.sureAddr, h2], h3⟩
end
end Go.AF
end

/-! ## Stores, new variables, addresses, aggregates, lengths, calls and results, over abstract states. -/
section
set_option linter.unusedVariables false
set_option linter.unusedSimpArgs false
namespace Go.AF
section
variable {P : Program} {R : Option Nat} {N κ : Nat} {Q Q' : Post} {T T' : Tm} {H : List Blk} {o : Oper}

/-! ### The cells of a value -/
def oneU : Value → Bool
  | .agg _ => false
  | .tuple _ => false
  | _ => true
def oneP : PV → Bool
  | .agg _ => false
  | .tuple _ => false
  | _ => true
def oneV : V → Bool
  | .p x => oneP x
  | .agg _ => false
  | .tuple _ => false
  | .opt _ _ => false
  | .top => false
  | _ => true
def cellsP : PV → List PV
  | .agg cs => cs
  | x => [x]
def cellsV : V → List V
  | .p x => (cellsP x).map .p
  | .agg vs => vs
  | v => [v]

theorem oneCell_of {w : World} {I : Nat → Prop} {ρ : List Nat} {v : V} {u : Value} (h : RelV P w I ρ v u) (h1 : oneV v = true) : oneU u = true := by
  cases v with
  | p x =>
    cases x <;> simp only [RelV, Rel, oneV, oneP] at h h1 <;> first
      | (subst h; rfl)
      | (obtain ⟨b, o, _, rfl, _⟩ := h; rfl)
      | (rcases h with ⟨⟨_, _, rfl⟩, _⟩ | ⟨b, o, cap, _, _, rfl, _⟩ <;> rfl)
      | (obtain ⟨r, es, clock, _, rfl, _⟩ := h; rfl)
      | (obtain ⟨us, vs, rfl, _⟩ := h; rfl)
      | (obtain ⟨x, rfl, _⟩ := h; rfl)
      | cases h1
  | ptr i off => obtain ⟨b, _, rfl⟩ := h; rfl
  | row i len => obtain ⟨b, e, cap, _, rfl, _⟩ := h; rfl
  | sl i off len => obtain ⟨b, cap, _, rfl, _⟩ := h; rfl
  | map i => obtain ⟨b, _, rfl⟩ := h; rfl
  | func fn fi ca => obtain ⟨us, vs, rfl, _⟩ := h; rfl
  | iface t v => obtain ⟨x, rfl, _⟩ := h; rfl
  | agg _ => cases h1
  | tuple _ => cases h1
  | opt _ _ => cases h1
  | raw a n c => subst h; rfl
  | z0 => obtain ⟨a, rfl⟩ := h; rfl
  | top => cases h1

/-- A value is known to its cells. -/
def cellsOk : V → Bool
  | .p (.tuple _) => false
  | .tuple _ => false
  | .opt _ _ => false
  | .top => false
  | _ => true
theorem cells_rel {w : World} {I : Nat → Prop} {ρ : List Nat} {v : V} {u : Value} (h : RelV P w I ρ v u) (h1 : cellsOk v = true) : RelVL P w I ρ (cellsV v) u.cells.toList := by
  have one : ∀ v : V, RelV P w I ρ v u → u.cells = #[u] → RelVL P w I ρ [v] u.cells.toList := fun v hv e => by rw [e]; exact ⟨u, [], rfl, hv, rfl⟩
  cases v with
  | p x =>
    cases x with
    | agg cs =>
      obtain ⟨us, rfl, hr⟩ := h
      exact RelVL.pure.2 hr
    | tuple _ => cases h1
    | _ =>
      refine one _ h ?_
      have := oneCell_of h rfl
      cases u <;> first | rfl | cases this
  | agg vs => obtain ⟨us, rfl, hr⟩ := h; exact hr
  | tuple _ => cases h1
  | opt _ _ => cases h1
  | top => cases h1
  | _ =>
    refine one _ h ?_
    have := oneCell_of h rfl
    cases u <;> first | rfl | cases this

/-! ### New variables -/
/-- A variable that nobody will write: its cells are known for good. -/
theorem OpJ.boxImm {x : Operand} {e : TypeId} {v : PV} (ho : o.op = .box e x) (hx : ev T x = some (.p v)) (hc : cellsOk (.p v) = true) : OpJ P N o T H (.p (.ip (cellsP v) 0)) H :=
  OpJ.of_run (by simp [ho]) fun w I ρ a hi ht => by
    have h1 := ht.ev hx
    refine ⟨.pointer (some ⟨w.heap.size, 0, none⟩), w.alloc (.cells (a.eval x).cells e), fun b => I b ∨ b = w.heap.size, ρ, .inl ?_, Ext.allocImm hi _ (fun _ _ _ h => by cases h; rfl), Inv.allocImm hi _ (fun _ _ _ h => by cases h; rfl), ?_⟩
    · simp [execOp, ho, Instr.box, newVar, newRow, newObj, Sem.run]
    · have h2 : RelVL P w I ρ ((cellsP v).map .p) (a.eval x).cells.toList := cells_rel h1 hc
      have h3 := RelVL.pure.1 h2
      have h4 := RelL.mono (fun _ h => .inl h) (fun b hb => heap_alloc_old w (.cells (a.eval x).cells e) (hi.ib b hb)) _ _ h3 (I' := fun b => I b ∨ b = w.heap.size) (w' := w.alloc (.cells (a.eval x).cells e))
      refine ⟨w.heap.size, 0, .inr rfl, by simp, ?_⟩
      have gen : ∀ (cs : List PV) (us : List Value) (k : Nat), (∀ j u, us[j]? = some u → (a.eval x).cells.toList[k + j]? = some u) → RelL (w.alloc (.cells (a.eval x).cells e)) (fun b => I b ∨ b = w.heap.size) cs us → RelAt (w.alloc (.cells (a.eval x).cells e)) (fun b => I b ∨ b = w.heap.size) cs w.heap.size k := by
        intro cs
        induction cs with
        | nil => intro us k _ _; simp [RelAt]
        | cons c cs ih =>
          intro us k hk hr
          obtain ⟨u, us', rfl, h5, h6⟩ := hr
          refine ⟨⟨u, ?_, h5⟩, ih us' (k + 1) (fun j u' hj => by have := hk (j + 1) u' (by simpa using hj); rwa [show k + (j + 1) = k + 1 + j by omega] at this) h6⟩
          have := hk 0 u rfl
          rw [World.cell?_alloc_new]
          simpa using this
      exact gen _ _ 0 (fun j u hj => by simpa using hj) h4

theorem OpJ.boxOwn {x : Operand} {e : TypeId} {v : V} (ho : o.op = .box e x) (hx : ev T x = some v) (hc : cellsOk v = true) : OpJ P N o T H (.ptr H.length 0) (H ++ [.cells (cellsV v) e]) :=
  OpJ.of_run (by simp [ho]) fun w I ρ a hi ht => by
    have h1 := ht.ev hx
    have hE : Ext w I ρ (w.alloc (.cells (a.eval x).cells e)) I (ρ ++ [w.heap.size]) := Ext.allocOwn hi _
    refine ⟨.pointer (some ⟨w.heap.size, 0, none⟩), w.alloc (.cells (a.eval x).cells e), I, ρ ++ [w.heap.size], .inl ?_, hE, Inv.allocOwn hi _ ⟨_, heap_alloc_new w _, RelVL.ext hE (cells_rel h1 hc)⟩, ?_⟩
    · simp [execOp, ho, Instr.box, newVar, newRow, newObj, Sem.run]
    · exact ⟨w.heap.size, by rw [← hi.len]; simp, rfl⟩

/-- The zero value of a type, as immutable data. -/
def zeroI (P : Program) (t : TypeId) : Option PV := ((P.info? t).bind (·.zero)).bind ofVal
theorem run_zero {t : TypeId} {z : PV} (h : zeroI P t = some z) (w : World) : ∃ u, (zeroValue t).run P w = .ok u w ∧ ∀ I, Rel w I z u := by
  unfold zeroI at h
  cases h1 : P.info? t with
  | none => rw [h1] at h; cases h
  | some i =>
    rw [h1] at h
    cases h2 : i.zero with
    | none => simp [h2] at h
    | some u =>
      simp [h2] at h
      exact ⟨u, by simp [zeroValue, run_typeInfo w h1, h2], fun I => Rel.val h⟩
theorem OpJ.allocOwn {e : TypeId} {z : PV} (ho : o.op = .alloc e) (hz : zeroI P e = some z) (hc : cellsOk (.p z) = true) : OpJ P N o T H (.ptr H.length 0) (H ++ [.cells ((cellsP z).map .p) e]) :=
  OpJ.of_run (by simp [ho]) fun w I ρ a hi ht => by
    obtain ⟨u, h1, h2⟩ := run_zero hz w
    have hE : Ext w I ρ (w.alloc (.cells u.cells e)) I (ρ ++ [w.heap.size]) := Ext.allocOwn hi _
    refine ⟨.pointer (some ⟨w.heap.size, 0, none⟩), w.alloc (.cells u.cells e), I, ρ ++ [w.heap.size], .inl ?_, hE, Inv.allocOwn hi _ ⟨_, heap_alloc_new w _, RelVL.ext hE (cells_rel (v := .p z) (h2 I) hc)⟩, ?_⟩
    · simp [execOp, ho, Instr.alloc, newVar, newRow, newObj, Sem.run, h1]
    · exact ⟨w.heap.size, by rw [← hi.len]; simp, rfl⟩
/-! ### Stores -/
def setAt (cs : List V) : Nat → List V → List V
  | _, [] => cs
  | k, v :: vs => setAt (cs.set k v) (k + 1) vs
def astore (H : List Blk) (i off : Nat) (vs : List V) : Option (List Blk) :=
  match H[i]? with
  | some (.cells cs e) => if off + vs.length ≤ cs.length then some (H.set i (.cells (setAt cs off vs) e)) else none
  | some (.row cs e) => if off + vs.length ≤ cs.length then some (H.set i (.row (setAt cs off vs) e)) else none
  | _ => none

theorem setAt_length : ∀ (vs cs : List V) (k : Nat), (setAt cs k vs).length = cs.length
  | [], _, _ => rfl
  | v :: vs, cs, k => by simp [setAt, setAt_length vs]

/-- Storing cells into an own block. -/
theorem run_storeCells_own {w : World} {b : Nat} {e : TypeId} : ∀ (us : List Value) (arr : Array Value) (w : World) (off k : Nat), w.heap[b]? = some (.cells arr e (0, 0)) → off + k + us.length ≤ arr.size → (∀ u ∈ us, oneU u = true) →
    ∃ w' arr', (storeCells ⟨b, off, none⟩ us k).run P w = .ok () w' ∧ w'.heap[b]? = some (.cells arr' e (0, 0)) ∧ arr'.size = arr.size ∧ arr'.toList = (us.foldl (fun (s : List Value × Nat) u => (s.1.set s.2 u, s.2 + 1)) (arr.toList, off + k)).1 ∧
      w'.os = w.os ∧ w'.tape = w.tape ∧ w'.output = w.output ∧ w'.heap.size = w.heap.size ∧ (∀ j, j ≠ b → w'.heap[j]? = w.heap[j]?)
  | [], arr, w, off, k, hb, _, _ => ⟨w, arr, by simp [storeCells], hb, rfl, rfl, rfl, rfl, rfl, rfl, fun _ _ => rfl⟩
  | u :: us, arr, w, off, k, hb, hl, h1 => by
    have hu := h1 u (by simp)
    have hlt : off + k < arr.size := by simp at hl; omega
    have hcell : w.cell? ⟨b, off + k, none⟩ = some (arr[off + k]) := by simp [World.cell?, hb, hlt]
    have hfr : w.frozen? ⟨b, off + k, none⟩ = false := by simp [World.frozen?, hb]
    have hrun : (store ⟨b, off + k, none⟩ u).run P w = .ok () (w.setCell ⟨b, off + k, none⟩ u) := by
      cases u <;> first | (simp [store, Sem.run, hcell, hfr]; done) | cases hu
    have hb' : (w.setCell ⟨b, off + k, none⟩ u).heap[b]? = some (.cells (arr.setIfInBounds (off + k) u) e (0, 0)) := by
      simp [World.setCell, Array.getElem?_modify, hb]
    obtain ⟨w', arr', h2, h3, h4, h5, h6, h7, h8, h9, h10⟩ := run_storeCells_own us (arr.setIfInBounds (off + k) u) (w.setCell ⟨b, off + k, none⟩ u) off (k + 1) hb' (by simp at hl ⊢; omega) (fun v hv => h1 v (by simp [hv])) (w := w)
    refine ⟨w', arr', ?_, h3, by simpa using h4, ?_, h6, h7, h8, by simpa using h9, fun j hj => ?_⟩
    · simp only [storeCells, add_none, Sem.run_bind, hrun, Result.andThen, h2]
    · rw [h5]
      simp only [List.foldl_cons, Array.toList_setIfInBounds]
      rfl
    · rw [h10 j hj]
      simp only [World.setCell, Array.getElem?_modify]
      rw [if_neg (by simpa using fun e => hj e.symm)]

theorem foldl_setAt {w : World} {I : Nat → Prop} {ρ : List Nat} : ∀ (vs : List V) (us : List Value) (cs : List V) (l : List Value) (k : Nat), RelVL P w I ρ vs us → k + vs.length ≤ cs.length → RelVL P w I ρ cs (l.take cs.length) →
    RelVL P w I ρ (setAt cs k vs) (((us.foldl (fun (s : List Value × Nat) u => (s.1.set s.2 u, s.2 + 1)) (l, k)).1).take cs.length)
  | [], us, cs, l, k, h, _, hc => by simp [RelVL] at h; subst h; exact hc
  | v :: vs, us, cs, l, k, h, hl, hc => by
    obtain ⟨u, us', rfl, h1, h2⟩ := h
    simp only [List.foldl_cons, setAt]
    have := foldl_setAt vs us' (cs.set k v) (l.set k u) (k + 1) h2 (by simp at hl ⊢; omega) (by
      have h3 := RelVL.set h1 k hc
      rw [List.length_set, List.take_set]
      exact h3)
    simpa using this

theorem OpJ.store {x y : Operand} {t : TypeId} {b : Bool} {n i off : Nat} {v : V} {H' : List Blk} (ho : o.op = .store t x y) (hx : ev T x = some (.ptr i off)) (hy : ev T y = some v) (hk : cellsOk v = true) (h1 : (cellsV v).all oneV = true)
    (ht : tyI P t = some (b, n)) (hn : (cellsV v).length = n) (hs : astore H i off (cellsV v) = some H') : OpJ P N o T H .top H' :=
  OpJ.of_run (by simp [ho]) fun w I ρ a hi hT => by
    obtain ⟨blk, hρ, hu⟩ := hT.ev hx
    have hv := hT.ev hy
    have hcells := cells_rel hv hk
    have hlen := RelVL.length hcells
    have hone : ∀ u ∈ (a.eval y).cells.toList, oneU u = true := by
      have gen : ∀ (vs : List V) (us : List Value), RelVL P w I ρ vs us → vs.all oneV = true → ∀ u ∈ us, oneU u = true := by
        intro vs
        induction vs with
        | nil => intro us h _ u hu; simp [RelVL] at h; subst h; cases hu
        | cons v vs ih =>
          intro us h ha u hu
          obtain ⟨u0, us', rfl, h3, h4⟩ := h
          simp at ha
          rcases List.mem_cons.1 hu with rfl | hu
          · exact oneCell_of h3 ha.1
          · exact ih us' h4 (by simpa using ha.2) u hu
      exact gen _ _ hcells h1
    have hsz : (a.eval y).cells.size = n := by rw [← hn, ← hlen]; simp
    unfold astore at hs
    have main : ∀ (cs : List V) (e : TypeId) (old new : Blk), H[i]? = some old → old.live = true → blkCells H[i]? = some cs → off + (cellsV v).length ≤ cs.length → H' = H.set i new →
        (∀ w' arr', w'.heap[blk]? = some (.cells arr' e (0, 0)) → cs.length ≤ arr'.size → RelVL P w' I ρ (setAt cs off (cellsV v)) (arr'.toList.take cs.length) → (∀ arr, w.heap[blk]? = some (.cells arr e (0, 0)) → arr'.size = arr.size) → RelB P w' I ρ new blk) → (∀ arr e', w.heap[blk]? = some (.cells arr e' (0, 0)) → e' = e) →
        ∃ u w' I' ρ', ((execOp a.eval o).run P w = .ok (.value u) w' ∨ ((execOp a.eval o).run P w = .ok .skip w' ∧ u = undef)) ∧ Ext w I ρ w' I' ρ' ∧ Inv P w' I' ρ' H' ∧ RelV P w' I' ρ' .top u := by
      intro cs e old new hH hlive hcs hle hnew hrel hety
      obtain ⟨blk', arr, e', hρ', hw, hl, hrelc⟩ := own_cells hi hcs
      rw [hρ] at hρ'; cases hρ'
      have he := hety arr e' hw
      subst he
      obtain ⟨w', arr', r1, r2, r3, r4, r5, r6, r7, r8, r9⟩ := run_storeCells_own (P := P) (w := w) (a.eval y).cells.toList arr w off 0 hw (by rw [hlen]; omega) hone
      have hE : Ext w I ρ w' I ρ := Ext.write hi hρ hH hlive r5 r6 r7 r8 r9 (fun s h => by
        simp only [World.shape?, hw] at h
        simp only [World.shape?, r2, r3]
        exact h)
      have hfold : RelVL P w' I ρ (setAt cs off (cellsV v)) (arr'.toList.take cs.length) := by
        rw [r4]
        exact foldl_setAt _ _ cs arr.toList (off + 0) (RelVL.ext hE hcells) (by simpa using hle) (RelVL.ext hE hrelc)
      refine ⟨undef, w', I, ρ, .inr ⟨?_, rfl⟩, hE, ?_, by simp [RelV]⟩
      · simp [execOp, ho, Instr.storeAt, hu, Instr.sureAddr, storeVar, run_sizeOf' ht, hsz, r1]
      · rw [hnew]
        exact Inv.write hi hρ hH hlive hE r8 r9 (hrel w' arr' r2 (by rw [r3]; exact hl) hfold (fun arr2 h2 => by rw [hw] at h2; cases h2; exact r3))
    split at hs
    · rename_i cs e hH
      split at hs
      · rename_i hle
        simp at hs
        refine main cs e _ (.cells (setAt cs off (cellsV v)) e) hH rfl (by rw [hH]; rfl) hle hs.symm ?_ ?_
        · intro w' arr' hw' hl' hrel hsz'
          obtain ⟨arr, h3, h4⟩ := hi.rel i blk _ hρ hH
          have h5 := RelVL.length h4
          have h6 := hsz' arr h3
          refine ⟨arr', hw', ?_⟩
          have : arr'.toList.take cs.length = arr'.toList := by rw [List.take_of_length_le]; simp [h6]; simpa using Nat.le_of_eq h5
          rw [this] at hrel
          exact hrel
        · intro arr e' h3
          obtain ⟨arr2, h4, _⟩ := hi.rel i blk _ hρ hH
          rw [h3] at h4; cases h4; rfl
      · cases hs
    · rename_i cs e hH
      split at hs
      · rename_i hle
        simp at hs
        refine main cs e _ (.row (setAt cs off (cellsV v)) e) hH rfl (by rw [hH]; rfl) hle hs.symm ?_ ?_
        · intro w' arr' hw' hl' hrel hsz'
          exact ⟨arr', hw', by rw [setAt_length]; exact hl', by rw [setAt_length]; exact hrel⟩
        · intro arr e' h3
          obtain ⟨arr2, h4, _⟩ := hi.rel i blk _ hρ hH
          rw [h3] at h4; cases h4; rfl
      · cases hs
    · cases hs
end
end Go.AF
end

/-! ## Addresses, aggregates, lengths, calls and results, over abstract states. -/
section
set_option linter.unusedVariables false
set_option linter.unusedSimpArgs false
namespace Go.AF
section
variable {P : Program} {R : Option Nat} {N κ : Nat} {Q Q' : Post} {T T' : Tm} {H : List Blk} {o : Oper}

/-! ### Addresses -/
def shift (n : Nat) : V → Option V
  | .p (.ip cs off) => some (.p (.ip cs (off + n)))
  | .ptr i off => some (.ptr i (off + n))
  | _ => none
theorem shift_rel {w : World} {I : Nat → Prop} {ρ : List Nat} {p v : V} {u : Value} {n : Nat} (h : RelV P w I ρ p u) (hs : shift n p = some v) : ∃ a, u = .pointer (some a) ∧ RelV P w I ρ v (.pointer (some (a.add n))) := by
  unfold shift at hs
  split at hs
  · simp at hs; subst hs
    obtain ⟨b, o, hb, rfl, hat⟩ := h
    exact ⟨_, rfl, b, o, hb, by rw [add_none, Nat.add_assoc], hat⟩
  · simp at hs; subst hs
    obtain ⟨b, hb, rfl⟩ := h
    exact ⟨_, rfl, b, hb, by rw [add_none]⟩
  · cases hs

/-- Where a field lies. -/
def fldI (P : Program) (s : TypeId) (f : Nat) : Option Nat :=
  match P.underlying s with
  | some (.struct fs) => match fs[f]? with
    | some fd => match tyI P fd.type with
      | some (_, n) => if n = 0 then none else some fd.offset
      | none => none
    | none => none
  | _ => none
theorem OpJ.fieldAddr {x : Operand} {s : TypeId} {f n : Nat} {p v : V} (ho : o.op = .fieldAddr s x f) (hx : ev T x = some p) (hf : fldI P s f = some n) (hs : shift n p = some v) : OpJ P N o T H v H :=
  OpJ.of_pure (by simp [ho]) fun w I ρ a hi ht => by
    obtain ⟨ad, hu, hr⟩ := shift_rel (ht.ev hx) hs
    unfold fldI at hf
    split at hf
    · rename_i fs hfs
      split at hf
      · rename_i fd hfd
        split at hf
        · rename_i b k htk
          split at hf
          · cases hf
          · rename_i hk
            simp at hf
            refine ⟨_, ?_, hr⟩
            simp [execOp, ho, Instr.fieldAt, run_underlying hfs, hfd, hu, Instr.sureAddr, fieldPlace, run_sizeOf' htk, hk, hf]
        · cases hf
      · cases hf
    · cases hf

/-- The size of an element. -/
def elI (P : Program) (t : TypeId) : Option Nat :=
  match P.underlying t with
  | some (.slice e) => (tyI P e).map (·.2)
  | some (.array _ e) => (tyI P e).map (·.2)
  | _ => none
def arrI (P : Program) (t : TypeId) : Option Nat :=
  match P.underlying t with
  | some (.array n _) => some n
  | _ => none
def isSl (P : Program) (t : TypeId) : Bool :=
  match P.underlying t with
  | some (.slice _) => true
  | _ => false
/-- Where an element of a slice lies. -/
def aindex (sz : Nat) (k : Nat) : V → Option V
  | .p (.is cs len) => if k < len then some (.p (.ip cs (k * sz))) else none
  | .row i len => if k < len then some (.ptr i (k * sz)) else none
  | .sl i off len => if k < len then some (.ptr i (off + k * sz)) else none
  | _ => none

theorem run_asIntOf {k : IntKind} {n : Int} (w : World) : (asIntOf (.int k n)).run P w = .ok (k, n) w := rfl

theorem OpJ.indexSlice {x y : Operand} {t : TypeId} {kd : IntKind} {sz : Nat} {n : Int} {p v : V} (ho : o.op = .indexAddr t x y) (hx : ev T x = some p) (hy : ev T y = some (.p (.int kd n))) (ht : isSl P t = true) (he : elI P t = some sz)
    (hcs : ∀ cs len, p = .p (.is cs len) → 0 < len → cs ≠ []) (h0 : 0 ≤ n) (hs : aindex sz n.toNat p = some v) : OpJ P N o T H v H :=
  OpJ.of_pure (by simp [ho]) fun w I ρ a hi hT => by
    have hn := ev_int hT hy
    have hr := hT.ev hx
    cases hu : P.underlying t with
    | none => simp [isSl, hu] at ht
    | some d =>
      cases d <;> simp [isSl, hu] at ht
      rename_i e
      simp only [elI, hu, Option.map_eq_some_iff] at he
      obtain ⟨⟨b, m⟩, htm, rfl⟩ := he
      have fin : ∀ (ad : Addr) (len cap : Nat) (v : V), a.eval x = .slice (some ad) len cap → n.toNat < len → RelV P w I ρ v (.pointer (some (ad.add (n.toNat * m)))) →
          ∃ u, (execOp a.eval o).run P w = .ok (.value u) w ∧ RelV P w I ρ v u := by
        intro ad len cap v hsl hlt hv
        refine ⟨_, ?_, hv⟩
        have hlt' : n < (len : Int) := by omega
        simp [execOp, ho, Instr.indexAt, hn, run_asIntOf, hsl, run_underlying hu, h0, hlt', run_sizeOf' htm]
      unfold aindex at hs
      split at hs
      · rename_i cs len
        split at hs
        · rename_i hlt
          simp at hs; subst hs
          rcases hr with ⟨_, hz⟩ | ⟨blk, off, cap, hb, hle, hsl, hat⟩
          · omega
          · refine fin _ _ _ _ hsl hlt ⟨blk, off, hb (hcs cs len rfl (by omega)), by rw [add_none], hat⟩
        · cases hs
      · rename_i i len
        split at hs
        · rename_i hlt
          simp at hs; subst hs
          obtain ⟨blk, e', cap, hρ, hsl, _, _⟩ := hr
          exact fin _ _ _ _ hsl hlt ⟨blk, hρ, by rw [add_none, Nat.zero_add]⟩
        · cases hs
      · rename_i i off len
        split at hs
        · rename_i hlt
          simp at hs; subst hs
          obtain ⟨blk, cap, hρ, hsl, _⟩ := hr
          exact fin _ _ _ _ hsl hlt ⟨blk, hρ, by rw [add_none]⟩
        · cases hs
      · cases hs

/-! ### Parts of aggregates -/
theorem extract_list (us : Array Value) (off n : Nat) : (us.extract off (off + n)).toList = (us.toList.drop off).take n := by
  rw [Array.toList_extract, List.extract_eq_take_drop, Nat.add_sub_cancel_left]
/-- A byte of a string. -/
theorem OpJ.indexStr {x y : Operand} {t : TypeId} {kd : IntKind} {n : Int} {s : ByteArray} {c : UInt8} (ho : o.op = .index t x y) (hx : ev T x = some (.p (.str s))) (hy : ev T y = some (.p (.int kd n))) (ht : P.underlying t = some .string)
    (h0 : 0 ≤ n) (hs : s[n.toNat]? = some c) : OpJ P N o T H (.p (.int .u8 c.toNat)) H :=
  OpJ.of_pure (by simp [ho]) fun w I ρ a hi hT => by
    have hn := ev_int hT hy
    have hst := ev_str hT hx
    exact ⟨.int .u8 c.toNat, by simp [execOp, ho, Instr.index, hn, run_asIntOf, hst, run_underlying ht, h0, hs], by simp [RelV, Rel]⟩

/-! ### Building -/
def placesOf (P : Program) : List Field → Option (List (Nat × Nat))
  | [] => some []
  | f :: fs => match tyI P f.type, placesOf P fs with
    | some x, some r => some ((f.offset, x.2) :: r)
    | _, _ => none
/-- The places of a type's parts, and its zero cells. -/
def bldI (P : Program) (t : TypeId) : Option (List PV × List (Nat × Nat)) :=
  match zeroI P t, P.underlying t with
  | some (.agg z), some (.struct fs) => match placesOf P fs.toList with
    | some ps => some (z, ps)
    | none => none
  | some (.agg z), some (.array n e) => match tyI P e with
    | some (_, sz) => some (z, (List.range n).map fun i => (i * sz, sz))
    | none => none
  | _, _ => none
def abuild (ps : List (Nat × Nat)) (cells : List V) : List (Nat × V) → Option (List V)
  | [] => some cells
  | (i, v) :: rest => match ps[i]? with
    | none => none
    | some (off, sz) => if (cellsV v).length = sz ∧ off + (cellsV v).length ≤ cells.length ∧ cellsOk v = true then abuild ps (setAt cells off (cellsV v)) rest else none
def evParts (T : Tm) : List (Nat × Operand) → Option (List (Nat × V))
  | [] => some []
  | (i, x) :: r => match ev T x, evParts T r with
    | some v, some vs => some ((i, v) :: vs)
    | _, _ => none

theorem foldl_cells {w : World} {I : Nat → Prop} {ρ : List Nat} : ∀ (vs : List V) (us : List Value) (cs : List V) (arr : Array Value) (off j : Nat), RelVL P w I ρ vs us → RelVL P w I ρ cs arr.toList →
    RelVL P w I ρ (setAt cs (off + j) vs) ((us.zipIdx j).foldl (fun (cs : Array Value) (x : Value × Nat) => cs.setIfInBounds (off + x.2) x.1) arr).toList
  | [], us, cs, arr, off, j, h, hc => by simp [RelVL] at h; subst h; exact hc
  | v :: vs, us, cs, arr, off, j, h, hc => by
    obtain ⟨u, us', rfl, h1, h2⟩ := h
    simp only [List.zipIdx_cons, List.foldl_cons, setAt]
    exact foldl_cells vs us' (cs.set (off + j) v) _ off (j + 1) h2 (by
      rw [Array.toList_setIfInBounds]
      exact RelVL.set h1 _ hc)

theorem fill_rel {w : World} {I : Nat → Prop} {ρ : List Nat} {ps : List (Nat × Nat)} {place : Nat → Option (Nat × Nat)} (hp : ∀ i x, ps[i]? = some x → place i = some x) : ∀ (vs : List (Nat × V)) (us : List (Nat × Value)) (cs : List V) (arr : Array Value) (r : List V),
    us.map (·.1) = vs.map (·.1) → RelVL P w I ρ (vs.map (·.2)) (us.map (·.2)) → RelVL P w I ρ cs arr.toList → abuild ps cs vs = some r → ∃ arr', Instr.fill place arr us = some arr' ∧ RelVL P w I ρ r arr'.toList
  | [], us, cs, arr, r, hm, _, hc, h => by
    have : us = [] := by simpa using hm
    subst this
    simp [abuild] at h; subst h
    exact ⟨arr, rfl, hc⟩
  | (i, v) :: vs, us, cs, arr, r, hm, hr, hc, h => by
    match us, hm, hr with
    | (i', u) :: us', hm, hr =>
      simp only [List.map_cons, List.cons.injEq] at hm
      obtain ⟨hi0, hm1⟩ := hm
      subst hi0
      obtain ⟨u0, us0, he, h1, h2⟩ := hr
      simp at he
      obtain ⟨rfl, rfl⟩ := he
      simp only [abuild] at h
      split at h
      · cases h
      · rename_i off sz hps
        split at h
        case isFalse => cases h
        case isTrue hyes =>
          obtain ⟨hlen, hle, hok⟩ := hyes
          have hcells := cells_rel h1 hok
          have hl := RelVL.length hcells
          have hcl := RelVL.length hc
          have := foldl_cells (cellsV v) u.cells.toList cs arr off 0 hcells hc
          obtain ⟨arr', h5, h6⟩ := fill_rel hp vs us' _ _ r hm1 h2 (by simpa using this) h
          refine ⟨arr', ?_, h6⟩
          have e1 : u.cells.size = sz := by rw [← hlen, ← hl]; simp
          have e2 : ¬ (off + u.cells.size > arr.size) := by
            have : arr.size = cs.length := by simpa using hcl
            rw [e1, this, ← hlen]
            exact Nat.not_lt.2 hle
          simp only [Instr.fill, hp _ _ hps, e1]
          rw [if_neg (by simp; rw [← e1]; omega)]
          rw [← h5]
          congr 1
          have e3 : u.cells.zipIdx.toList = u.cells.toList.zipIdx := by simp
          rw [← Array.foldl_toList, e3]

theorem evParts_rel {w : World} {I : Nat → Prop} {ρ : List Nat} {a : Act} (hT : TRel P w I ρ N T a.tmps) : ∀ {xs : List (Nat × Operand)} {vs : List (Nat × V)}, evParts T xs = some vs → (xs.map fun x => (x.1, a.eval x.2)).map (·.1) = vs.map (·.1) ∧ RelVL P w I ρ (vs.map (·.2)) ((xs.map fun x => (x.1, a.eval x.2)).map (·.2))
  | [], vs, h => by simp [evParts] at h; subst h; simp [RelVL]
  | (i, x) :: xs, vs, h => by
    simp only [evParts] at h
    split at h
    · rename_i v vs' h1 h2
      simp at h; subst h
      obtain ⟨h3, h4⟩ := evParts_rel hT h2
      exact ⟨by simp at h3; simp [h3], _, _, rfl, hT.ev h1, h4⟩
    · cases h

theorem run_places {w : World} : ∀ (fs : List Field) (ps : List (Nat × Nat)), placesOf P fs = some ps → (fs.mapM (m := Sem) fun f => do pure (f.offset, ← sizeOf f.type)).run P w = .ok ps w
  | [], ps, h => by simp [placesOf] at h; subst h; simp
  | f :: fs, ps, h => by
    simp only [placesOf] at h
    split at h
    · rename_i x r h1 h2
      simp at h; subst h
      have ih := run_places (w := w) fs r h2
      simp only [List.mapM_cons, Sem.run_bind, run_sizeOf' h1, Result.andThen, Sem.run_pure, ih]
    · cases h

theorem OpJ.build {t : TypeId} {parts : Array (Nat × Operand)} {z : List PV} {ps : List (Nat × Nat)} {vs : List (Nat × V)} {r : List V} (ho : o.op = .build t parts) (hb : bldI P t = some (z, ps)) (hv : evParts T parts.toList = some vs) (hr : abuild ps (z.map .p) vs = some r) : OpJ P N o T H (aggOf r) H :=
  OpJ.of_pure (by simp [ho]) fun w I ρ a hi hT => by
    obtain ⟨hm, hrel⟩ := evParts_rel hT hv
    have hparts : (parts.map fun (x : Nat × Operand) => (x.1, a.eval x.2)).toList = parts.toList.map fun x => (x.1, a.eval x.2) := by simp
    unfold bldI at hb
    split at hb
    · rename_i z' fs hz hu
      split at hb
      · rename_i ps' hps
        simp at hb
        obtain ⟨rfl, rfl⟩ := hb
        obtain ⟨u, h1, h2⟩ := run_zero hz w
        obtain ⟨us, rfl, h3⟩ := h2 I
        have hplaces : (fs.mapM (m := Sem) fun f => do pure (f.offset, ← sizeOf f.type)).run P w = .ok ps'.toArray w := by
          have := run_places (w := w) fs.toList ps' hps
          rw [Array.mapM_eq_mapM_toList, Sem.run_map, this]
          rfl
        obtain ⟨arr', h5, h6⟩ := fill_rel (place := fun i => ps'.toArray[i]?) (fun i x h => by simpa using h) vs _ _ us r hm hrel (RelVL.pure.2 h3) hr
        refine ⟨.agg arr', ?_, RelV.aggOf h6⟩
        simp only [execOp, ho, Instr.build, Sem.run_bind, h1, Result.andThen, run_underlying hu, hplaces, Value.cells]
        rw [show (Array.map (fun (x : Nat × Operand) => match x with | (i, x) => (i, a.eval x)) parts).toList = parts.toList.map fun x => (x.1, a.eval x.2) by simp]
        rw [h5]
        rfl
      · cases hb
    · rename_i z' n e hz hu
      split at hb
      · rename_i b sz htk
        simp at hb
        obtain ⟨rfl, rfl⟩ := hb
        obtain ⟨u, h1, h2⟩ := run_zero hz w
        obtain ⟨us, rfl, h3⟩ := h2 I
        obtain ⟨arr', h5, h6⟩ := fill_rel (place := fun i => some (i * sz, sz)) (fun i x h => by
          simp [List.getElem?_map, Option.map_eq_some_iff] at h
          obtain ⟨a', ha, rfl⟩ := h
          rw [List.getElem?_range] at ha
          · simp at ha; subst ha; rfl
          · rcases Nat.lt_or_ge i n with h' | h'
            · exact h'
            · rw [List.getElem?_eq_none (by simpa using h')] at ha; cases ha) vs _ _ us r hm hrel (RelVL.pure.2 h3) hr
        refine ⟨.agg arr', ?_, RelV.aggOf h6⟩
        simp only [execOp, ho, Instr.build, Sem.run_bind, h1, Result.andThen, run_underlying hu, run_sizeOf' htk, Value.cells]
        rw [show (Array.map (fun (x : Nat × Operand) => match x with | (i, x) => (i, a.eval x)) parts).toList = parts.toList.map fun x => (x.1, a.eval x.2) by simp]
        rw [h5]
        rfl
      · cases hb
    · cases hb

/-! ### Tuples, functions, lengths -/
def atup (k : Nat) : V → Option V
  | .p (.tuple vs) => (vs[k]?).map .p
  | .tuple vs => vs[k]?
  | _ => none
theorem OpJ.extract {x : Operand} {k : Nat} {p v : V} (ho : o.op = .extract x k) (hx : ev T x = some p) (hk : atup k p = some v) : OpJ P N o T H v H :=
  OpJ.of_pure (by simp [ho]) fun w I ρ a hi hT => by
    have hr := hT.ev hx
    unfold atup at hk
    split at hk
    · simp only [Option.map_eq_some_iff] at hk
      obtain ⟨c, hc, rfl⟩ := hk
      obtain ⟨us, hu, hl⟩ := hr
      obtain ⟨u', h1, h2⟩ := RelVL.get (v := .p c) (i := k) (RelVL.pure (P := P) (ρ := ρ).2 hl) (by simp [hc])
      simp at h1
      exact ⟨u', by simp [execOp, ho, Instr.extract, hu, h1], h2⟩
    · obtain ⟨us, hu, hl⟩ := hr
      obtain ⟨u', h1, h2⟩ := RelVL.get hl hk
      simp at h1
      exact ⟨u', by simp [execOp, ho, Instr.extract, hu, h1], h2⟩
    · cases hk

def funcOf (fn : Fn) (fi ca : List V) : V := match allP fi, allP ca with
  | some xs, some ys => .p (.func fn xs ys)
  | _, _ => .func fn fi ca
theorem OpJ.makeFunc {fn : Fn} {first captured : Array Operand} {fi ca : List V} (ho : o.op = .makeFunc fn first captured) (h1 : evs T first.toList = some fi) (h2 : evs T captured.toList = some ca) : OpJ P N o T H (funcOf fn fi ca) H :=
  OpJ.of_pure (by simp [ho]) fun w I ρ a hi hT => by
    have r1 := hT.evs h1
    have r2 := hT.evs h2
    refine ⟨.func fn (first.map a.eval) (captured.map a.eval), by simp [execOp, ho, Instr.makeFunc], ?_⟩
    unfold funcOf
    split
    · rename_i xs ys e1 e2
      rw [allP_some e1] at r1
      rw [allP_some e2] at r2
      exact ⟨_, _, rfl, by simpa using RelVL.pure.1 r1, by simpa using RelVL.pure.1 r2⟩
    · exact ⟨_, _, rfl, by simpa using r1, by simpa using r2⟩

/-- What 'len' says. -/
def alen : V → Option Nat
  | .p (.is _ len) => some len
  | .p .nilSlice => some 0
  | .row _ len => some len
  | .sl _ _ len => some len
  | .raw _ len _ => some len
  | .z0 => some 0
  | _ => none
theorem OpJ.lenSlice {x : Operand} {t : TypeId} {n : Nat} {p : V} (ho : o.op = .call { callee := .builtin .len, args := #[x], argTypes := #[t] }) (hx : ev T x = some p) (ht : isSl P t = true) (hn : alen p = some n) : OpJ P N o T H (.p (.int .i64 n)) H :=
  OpJ.of_pure (by simp [ho]) fun w I ρ a hi hT => by
    have hr := hT.ev hx
    have hsl : ∃ ad cap, a.eval x = .slice ad n cap := by
      unfold alen at hn
      split at hn <;> try cases hn
      · rcases hr with ⟨h1, h2⟩ | ⟨b, o, cap, _, _, h1, _⟩
        · subst h2; exact h1
        · exact ⟨_, _, h1⟩
      · exact ⟨_, _, hr⟩
      · obtain ⟨b, e, cap, _, h1, _⟩ := hr; exact ⟨_, _, h1⟩
      · obtain ⟨b, cap, _, h1, _⟩ := hr; exact ⟨_, _, h1⟩
      · exact ⟨_, _, hr⟩
      · obtain ⟨a, h1⟩ := hr; exact ⟨_, _, h1⟩
    obtain ⟨ad, cap, hs⟩ := hsl
    cases hu : P.underlying t with
    | none => simp [isSl, hu] at ht
    | some d =>
      cases d <;> simp [isSl, hu] at ht
      exact ⟨.int .i64 n, by simp [execOp, ho, resolve, invoke, builtin, Builtin.len_, run_underlying hu, hs, goInt], by simp [RelV, Rel]⟩
theorem OpJ.lenStr {x : Operand} {t : TypeId} {s : ByteArray} (ho : o.op = .call { callee := .builtin .len, args := #[x], argTypes := #[t] }) (hx : ev T x = some (.p (.str s))) (ht : P.underlying t = some .string) : OpJ P N o T H (.p (.int .i64 s.size)) H :=
  OpJ.of_pure (by simp [ho]) fun w I ρ a hi hT => by
    exact ⟨.int .i64 s.size, by simp [execOp, ho, resolve, invoke, builtin, Builtin.len_, run_underlying ht, ev_str hT hx, goInt], by simp [RelV, Rel]⟩
theorem OpJ.min2 {x y : Operand} {ts : Array TypeId} {k : IntKind} {a b : Int} (ho : o.op = .call { callee := .builtin .min, args := #[x, y], argTypes := ts }) (hx : ev T x = some (.p (.int k a))) (hy : ev T y = some (.p (.int k b))) : OpJ P N o T H (.p (.int k (min a b))) H :=
  OpJ.of_pure (by simp [ho]) fun w I ρ ac hi hT => by
    refine ⟨.int k (if b < a then b else a), by simp [execOp, ho, resolve, invoke, builtin, Builtin.min_, Builtin.min2, ev_int hT hx, ev_int hT hy], ?_⟩
    simp only [RelV, Rel, Value.int.injEq, true_and]
    split <;> omega
theorem OpJ.convInt {x : Operand} {s d : TypeId} {k k' : IntKind} {n m : Int} (ho : o.op = .convert s d x) (hx : ev T x = some (.p (.int k n))) (hs : (P.underlying s).isSome = true) (hd : P.underlying d = some (.int k')) (hw : k'.wrap n = m) : OpJ P N o T H (.p (.int k' m)) H :=
  OpJ.of_pure (by simp [ho]) fun w I ρ a hi hT => by
    obtain ⟨ds, hs'⟩ := Option.isSome_iff_exists.1 hs
    refine ⟨.int k' m, ?_, by simp [RelV, Rel]⟩
    simp [execOp, ho, convert, run_underlying hs', run_underlying hd, ev_int hT hx, Conv.intToInt, hw]

/-! ### Calls -/
/-- A function of the program's own text. -/
def realFn (P : Program) (f : FuncId) : Bool :=
  match P.funcs[f]? with
  | some fn => fn.body.isSome && fn.name != "runtime.NumGoroutine"
  | none => false
theorem run_callFunc {f : FuncId} (h : realFn P f = true) (args : Array Value) (w : World) : (callFunc f args).run P w = .ok (.enter f args) w := by
  unfold realFn at h
  cases hf : P.funcs[f]? with
  | none => rw [hf] at h; cases h
  | some fn =>
    rw [hf] at h
    simp only [Bool.and_eq_true, bne_iff_ne, ne_eq] at h
    obtain ⟨h1, h2⟩ := h
    obtain ⟨c, hc⟩ := Option.isSome_iff_exists.1 h1
    simp [callFunc, program, Sem.run, hf, h2, hc]

theorem callsIn_fr {n : Nat} {f : FuncId} {args : Array Value} {w : World} {Rr : Ending → World → Prop} (R : Option Nat) (h : CallsIn Fence.wide n P f args w Rr) : CallsIn (Fr R) n P f args w Rr := h

/-- The value called: its function, and all arguments. -/
def callee (args : List V) : V → Option (FuncId × List V)
  | .p (.func (.func f) fi ca) => some (f, fi.map .p ++ args ++ ca.map .p)
  | .func (.func f) fi ca => some (f, fi ++ args ++ ca)
  | _ => none

theorem RelVL.append {w : World} {I : Nat → Prop} {ρ : List Nat} : ∀ {xs ys : List V} {us vs : List Value}, RelVL P w I ρ xs us → RelVL P w I ρ ys vs → RelVL P w I ρ (xs ++ ys) (us ++ vs)
  | [], ys, us, vs, h, k => by simp [RelVL] at h; subst h; exact k
  | x :: xs, ys, us, vs, h, k => by
    obtain ⟨u, us', rfl, h1, h2⟩ := h
    exact ⟨u, us' ++ vs, rfl, h1, RelVL.append h2 k⟩

theorem run_callOp {w : World} {I : Nat → Prop} {ρ : List Nat} {a : Act} {f : Operand} {xs : Array Operand} {ts : Array TypeId} {fv : V} {vs all : List V} {g : FuncId} (ho : o.op = .call { callee := .value f, args := xs, argTypes := ts }) (hT : TRel P w I ρ N T a.tmps) (hf : ev T f = some fv)
    (hxs : evs T xs.toList = some vs) (hc : callee vs fv = some (g, all)) (hg : realFn P g = true) : ∃ us : List Value, RelVL P w I ρ all us ∧ (execOp a.eval o).run P w = .ok (.enter g us.toArray) w := by
  have h1 := hT.ev hf
  have h2 := hT.evs hxs
  unfold callee at hc
  split at hc
  · rename_i f' fi ca
    simp at hc
    obtain ⟨rfl, rfl⟩ := hc
    obtain ⟨us, vs', hu, h3, h4⟩ := h1
    refine ⟨us.toList ++ (xs.toList.map a.eval) ++ vs'.toList, ?_, ?_⟩
    · have := RelVL.append (RelVL.append (RelVL.pure (P := P) (ρ := ρ).2 h3) h2) (RelVL.pure (P := P) (ρ := ρ).2 h4)
      simpa using this
    · simp [execOp, ho, resolve, hu, Deferred.ofValue, invoke, run_callFunc hg]
  · rename_i f' fi ca
    simp at hc
    obtain ⟨rfl, rfl⟩ := hc
    obtain ⟨us, vs', hu, h3, h4⟩ := h1
    refine ⟨us.toList ++ (xs.toList.map a.eval) ++ vs'.toList, ?_, ?_⟩
    · have := RelVL.append (RelVL.append h3 h2) h4
      simpa using this
    · simp [execOp, ho, resolve, hu, Deferred.ofValue, invoke, run_callFunc hg]
  · cases hc

/-- A call of a pure function. -/
theorem OpJ.callPure {f : Operand} {xs : Array Operand} {ts : Array TypeId} {fv : V} {vs : List V} {g : FuncId} {args : List PV} {r : PV} (ho : o.op = .call { callee := .value f, args := xs, argTypes := ts }) (hf : ev T f = some fv)
    (hxs : evs T xs.toList = some vs) (hc : callee vs fv = some (g, args.map .p)) (hg : realFn P g = true) (hp : Pure P g args r) : OpJ P N o T H (.p r) H := by
  intro R w I ρ a hi hT K QX hK
  refine ⟨about_wide, ?_⟩
  rw [semAt_plain _ _ _ (by simp [ho])]
  obtain ⟨us, h1, h2⟩ := run_callOp ho hT hf hxs hc hg
  rw [h2]
  have h1' : RelVL P w I [] (args.map .p) us := RelVL.pure.2 (RelVL.pure.1 h1)
  refine ⟨(fun h => by cases h), ?_⟩
  refine CallsIn.mono (callsIn_fr R (hp w I [] us hi.nothing h1')) ?_
  rintro e w' ⟨u, v, J, σ, H', rfl, ⟨rfl, rfl⟩, h3, h4, h5⟩
  have hσ : σ = [] := List.eq_nil_of_length_eq_zero h4.len
  subst hσ
  obtain ⟨h6, h7⟩ := Inv.frame hi h3 h4
  exact hK u w' J ρ h6 h7 h5

/-! ### Results -/
theorem resV.none_ {fn : Func} (h : fn.results = #[]) : resV P N fn T H (.p (.tuple [])) :=
  fun w I ρ a hi ht => ⟨.tuple #[], by simp [results, h], ⟨#[], rfl, by simp [RelL]⟩⟩

/-- One result, in a slot or in a cell. -/
def resOne (P : Program) (T : Tm) (H : List Blk) : ResultVar → V → Prop
  | .tmp t, v => lk T t = some v
  | .cell s ty, v => ∃ p b n, lk T s = some p ∧ tyI P ty = some (b, n) ∧ aload H b n p = some v
theorem run_resOne {w : World} {I : Nat → Prop} {ρ : List Nat} {a : Array Value} {r : ResultVar} {v : V} (hi : Inv P w I ρ H) (ht : TRel P w I ρ N T a) (h : resOne P T H r v) :
    ∃ u, (match r with | .tmp t => pure (a.getD t undef) | .cell addr ty => do loadVar ty (← asAddr (a.getD addr undef)) : Sem Value).run P w = .ok u w ∧ RelV P w I ρ v u := by
  cases r with
  | tmp t => exact ⟨_, rfl, ht.at_ t v h⟩
  | cell s ty =>
    obtain ⟨p, b, n, h1, h2, h3⟩ := h
    obtain ⟨ad, u', h4, h5, h6⟩ := run_aload h2 hi (ht.at_ s p h1) h3
    exact ⟨u', by simp only [h4, asAddr, Sem.run_bind, Sem.run_pure, Result.andThen]; exact h5, h6⟩
end
end Go.AF
end

/-! ## Results of a function, and regions that draw their order, over abstract states. -/
section
set_option linter.unusedVariables false
set_option linter.unusedSimpArgs false
namespace Go.AF
section
variable {P : Program} {R : Option Nat} {N κ : Nat} {Q Q' : Post} {T T' : Tm} {H : List Blk} {o : Oper}

def tupOf (vs : List V) : V := match allP vs with
  | some xs => .p (.tuple xs)
  | none => .tuple vs
theorem RelV.tupOf {w : World} {I : Nat → Prop} {ρ : List Nat} {vs : List V} {us : Array Value} (h : RelVL P w I ρ vs us.toList) : RelV P w I ρ (tupOf vs) (.tuple us) := by
  unfold AF.tupOf
  cases hp : allP vs with
  | none => exact ⟨us, rfl, h⟩
  | some xs => rw [allP_some hp] at h; exact ⟨us, rfl, RelVL.pure.1 h⟩

def resF (a : Array Value) : ResultVar → Sem Value
  | .tmp t => pure (a.getD t undef)
  | .cell ad t => do loadVar t (← asAddr (a.getD ad undef))
theorem results_eq (fn : Func) (a : Array Value) : results fn a = fn.results.mapM (resF a) >>= fun vs => pure (if h : vs.size = 1 then vs[0] else .tuple vs) := by
  unfold results
  congr 1
def ress (P : Program) (T : Tm) (H : List Blk) : List ResultVar → List V → Prop
  | [], vs => vs = []
  | r :: rs, vs => ∃ v vs', vs = v :: vs' ∧ resOne P T H r v ∧ ress P T H rs vs'

theorem run_ress {w : World} {I : Nat → Prop} {ρ : List Nat} {a : Array Value} (hi : Inv P w I ρ H) (ht : TRel P w I ρ N T a) : ∀ {rs : List ResultVar} {vs : List V}, ress P T H rs vs →
    ∃ us, (rs.mapM (resF a)).run P w = .ok us w ∧ RelVL P w I ρ vs us
  | [], vs, h => ⟨[], by simp, by simp [ress] at h; subst h; rfl⟩
  | r :: rs, vs, h => by
    obtain ⟨v, vs', rfl, h1, h2⟩ := h
    obtain ⟨u, h3, h4⟩ := run_resOne hi ht h1
    obtain ⟨us, h5, h6⟩ := run_ress hi ht h2
    refine ⟨u :: us, ?_, u, us, rfl, h4, h6⟩
    simp only [List.mapM_cons, Sem.run_bind]
    have h7 : (resF a r).run P w = .ok u w := by cases r <;> exact h3
    rw [h7]
    simp only [Result.andThen, h5]
    rfl

theorem resV.one {fn : Func} {r : ResultVar} {v : V} (h : fn.results = #[r]) (hr : resOne P T H r v) : resV P N fn T H v := by
  intro w I ρ a hi ht
  obtain ⟨us, h1, h2⟩ := run_ress hi ht (rs := [r]) (vs := [v]) ⟨v, [], rfl, hr, rfl⟩
  obtain ⟨u, rfl, h3⟩ := RelVL.p_one h2
  refine ⟨u, ?_, h3⟩
  simp only [results_eq, h, Array.mapM_eq_mapM_toList, Sem.run_bind, Sem.run_map, Result.andThen]
  rw [h1]
  rfl
theorem resV.many {fn : Func} {r1 r2 : ResultVar} {rs : List ResultVar} {vs : List V} (h : fn.results = (r1 :: r2 :: rs).toArray) (hr : ress P T H (r1 :: r2 :: rs) vs) : resV P N fn T H (tupOf vs) := by
  intro w I ρ a hi ht
  obtain ⟨us, h1, h2⟩ := run_ress hi ht hr
  refine ⟨.tuple us.toArray, ?_, RelV.tupOf (by simpa using h2)⟩
  have hl : us.length = rs.length + 2 := by
    have h3 := RelVL.length h2
    have : ∀ {rs : List ResultVar} {vs : List V}, ress P T H rs vs → vs.length = rs.length := by
      intro rs
      induction rs with
      | nil => intro vs h; simp [ress] at h; simp [h]
      | cons r rs ih => intro vs h; obtain ⟨v, vs', rfl, _, h⟩ := h; simp [ih h]
    rw [h3, this hr]; simp
  simp only [results_eq, h, Array.mapM_eq_mapM_toList, Sem.run_bind, Sem.run_map, Result.andThen]
  rw [h1]
  simp only [Sem.run_pure]
  rw [dif_neg (by simp; omega)]
end
end Go.AF
end
end
