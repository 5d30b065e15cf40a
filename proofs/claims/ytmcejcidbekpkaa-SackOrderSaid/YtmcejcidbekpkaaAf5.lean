/-
  Stores, new variables, addresses, aggregates, lengths, calls and results, over abstract states. No condition; generic over any program.
-/
import Derived.Test.YtmcejcidbekpkaaAf4
set_option linter.unusedVariables false
set_option linter.unusedSimpArgs false
namespace Go.AF
section
variable {P : Program} {R : Option Nat} {N κ : Nat} {Q Q' : Post} {T T' : Tm} {H : List Blk} {o : Oper}

/-! ### The cells of a value -/
def oneU : Value → Bool
  | .agg _ => false
  | .tuple _ => false
  | _ => true
def oneP : PV → Bool
  | .agg _ => false
  | .tuple _ => false
  | _ => true
def oneV : V → Bool
  | .p x => oneP x
  | .agg _ => false
  | .tuple _ => false
  | .opt _ _ => false
  | .top => false
  | _ => true
def cellsP : PV → List PV
  | .agg cs => cs
  | x => [x]
def cellsV : V → List V
  | .p x => (cellsP x).map .p
  | .agg vs => vs
  | v => [v]

theorem oneCell_of {w : World} {I : Nat → Prop} {ρ : List Nat} {v : V} {u : Value} (h : RelV P w I ρ v u) (h1 : oneV v = true) : oneU u = true := by
  cases v with
  | p x =>
    cases x <;> simp only [RelV, Rel, oneV, oneP] at h h1 <;> first
      | (subst h; rfl)
      | (obtain ⟨b, o, _, rfl, _⟩ := h; rfl)
      | (rcases h with ⟨⟨_, _, rfl⟩, _⟩ | ⟨b, o, cap, _, _, rfl, _⟩ <;> rfl)
      | (obtain ⟨r, es, clock, _, rfl, _⟩ := h; rfl)
      | (obtain ⟨us, vs, rfl, _⟩ := h; rfl)
      | (obtain ⟨x, rfl, _⟩ := h; rfl)
      | cases h1
  | ptr i off => obtain ⟨b, _, rfl⟩ := h; rfl
  | row i len => obtain ⟨b, e, cap, _, rfl, _⟩ := h; rfl
  | sl i off len => obtain ⟨b, cap, _, rfl, _⟩ := h; rfl
  | map i => obtain ⟨b, _, rfl⟩ := h; rfl
  | func fn fi ca => obtain ⟨us, vs, rfl, _⟩ := h; rfl
  | iface t v => obtain ⟨x, rfl, _⟩ := h; rfl
  | agg _ => cases h1
  | tuple _ => cases h1
  | opt _ _ => cases h1
  | top => cases h1

/-- A value is known to its cells. -/
def cellsOk : V → Bool
  | .p (.tuple _) => false
  | .tuple _ => false
  | .opt _ _ => false
  | .top => false
  | _ => true
theorem cells_rel {w : World} {I : Nat → Prop} {ρ : List Nat} {v : V} {u : Value} (h : RelV P w I ρ v u) (h1 : cellsOk v = true) : RelVL P w I ρ (cellsV v) u.cells.toList := by
  have one : ∀ v : V, RelV P w I ρ v u → u.cells = #[u] → RelVL P w I ρ [v] u.cells.toList := fun v hv e => by rw [e]; exact ⟨u, [], rfl, hv, rfl⟩
  cases v with
  | p x =>
    cases x with
    | agg cs =>
      obtain ⟨us, rfl, hr⟩ := h
      exact RelVL.pure.2 hr
    | tuple _ => cases h1
    | _ =>
      refine one _ h ?_
      have := oneCell_of h rfl
      cases u <;> first | rfl | cases this
  | agg vs => obtain ⟨us, rfl, hr⟩ := h; exact hr
  | tuple _ => cases h1
  | opt _ _ => cases h1
  | top => cases h1
  | _ =>
    refine one _ h ?_
    have := oneCell_of h rfl
    cases u <;> first | rfl | cases this

/-! ### New variables -/
/-- A variable that nobody will write: its cells are known for good. -/
theorem OpJ.boxImm {x : Operand} {e : TypeId} {v : PV} (ho : o.op = .box e x) (hx : ev T x = some (.p v)) (hc : cellsOk (.p v) = true) : OpJ P N o T H (.p (.ip (cellsP v) 0)) H :=
  OpJ.of_run (by simp [ho]) fun w I ρ a hi ht => by
    have h1 := ht.ev hx
    refine ⟨.pointer (some ⟨w.heap.size, 0, none⟩), w.alloc (.cells (a.eval x).cells e), fun b => I b ∨ b = w.heap.size, ρ, .inl ?_, Ext.allocImm hi _, Inv.allocImm hi _, ?_⟩
    · simp [execOp, ho, Instr.box, newVar, newRow, newObj, Sem.run]
    · have h2 : RelVL P w I ρ ((cellsP v).map .p) (a.eval x).cells.toList := cells_rel h1 hc
      have h3 := RelVL.pure.1 h2
      have h4 := RelL.mono (fun _ h => .inl h) (fun b hb => heap_alloc_old w (.cells (a.eval x).cells e) (hi.ib b hb)) _ _ h3 (I' := fun b => I b ∨ b = w.heap.size) (w' := w.alloc (.cells (a.eval x).cells e))
      refine ⟨w.heap.size, 0, .inr rfl, by simp, ?_⟩
      have gen : ∀ (cs : List PV) (us : List Value) (k : Nat), (∀ j u, us[j]? = some u → (a.eval x).cells.toList[k + j]? = some u) → RelL (w.alloc (.cells (a.eval x).cells e)) (fun b => I b ∨ b = w.heap.size) cs us → RelAt (w.alloc (.cells (a.eval x).cells e)) (fun b => I b ∨ b = w.heap.size) cs w.heap.size k := by
        intro cs
        induction cs with
        | nil => intro us k _ _; simp [RelAt]
        | cons c cs ih =>
          intro us k hk hr
          obtain ⟨u, us', rfl, h5, h6⟩ := hr
          refine ⟨⟨u, ?_, h5⟩, ih us' (k + 1) (fun j u' hj => by have := hk (j + 1) u' (by simpa using hj); rwa [show k + (j + 1) = k + 1 + j by omega] at this) h6⟩
          have := hk 0 u rfl
          rw [World.cell?_alloc_new]
          simpa using this
      exact gen _ _ 0 (fun j u hj => by simpa using hj) h4

theorem OpJ.boxOwn {x : Operand} {e : TypeId} {v : V} (ho : o.op = .box e x) (hx : ev T x = some v) (hc : cellsOk v = true) : OpJ P N o T H (.ptr H.length 0) (H ++ [.cells (cellsV v) e]) :=
  OpJ.of_run (by simp [ho]) fun w I ρ a hi ht => by
    have h1 := ht.ev hx
    have hE : Ext w I ρ (w.alloc (.cells (a.eval x).cells e)) I (ρ ++ [w.heap.size]) := Ext.allocOwn hi _
    refine ⟨.pointer (some ⟨w.heap.size, 0, none⟩), w.alloc (.cells (a.eval x).cells e), I, ρ ++ [w.heap.size], .inl ?_, hE, Inv.allocOwn hi _ ⟨_, heap_alloc_new w _, RelVL.ext hE (cells_rel h1 hc)⟩, ?_⟩
    · simp [execOp, ho, Instr.box, newVar, newRow, newObj, Sem.run]
    · exact ⟨w.heap.size, by rw [← hi.len]; simp, rfl⟩

/-- The zero value of a type, as immutable data. -/
def zeroI (P : Program) (t : TypeId) : Option PV := ((P.info? t).bind (·.zero)).bind ofVal
theorem run_zero {t : TypeId} {z : PV} (h : zeroI P t = some z) (w : World) : ∃ u, (zeroValue t).run P w = .ok u w ∧ ∀ I, Rel w I z u := by
  unfold zeroI at h
  cases h1 : P.info? t with
  | none => rw [h1] at h; cases h
  | some i =>
    rw [h1] at h
    cases h2 : i.zero with
    | none => simp [h2] at h
    | some u =>
      simp [h2] at h
      exact ⟨u, by simp [zeroValue, run_typeInfo w h1, h2], fun I => Rel.val h⟩
theorem OpJ.allocOwn {e : TypeId} {z : PV} (ho : o.op = .alloc e) (hz : zeroI P e = some z) (hc : cellsOk (.p z) = true) : OpJ P N o T H (.ptr H.length 0) (H ++ [.cells ((cellsP z).map .p) e]) :=
  OpJ.of_run (by simp [ho]) fun w I ρ a hi ht => by
    obtain ⟨u, h1, h2⟩ := run_zero hz w
    have hE : Ext w I ρ (w.alloc (.cells u.cells e)) I (ρ ++ [w.heap.size]) := Ext.allocOwn hi _
    refine ⟨.pointer (some ⟨w.heap.size, 0, none⟩), w.alloc (.cells u.cells e), I, ρ ++ [w.heap.size], .inl ?_, hE, Inv.allocOwn hi _ ⟨_, heap_alloc_new w _, RelVL.ext hE (cells_rel (v := .p z) (h2 I) hc)⟩, ?_⟩
    · simp [execOp, ho, Instr.alloc, newVar, newRow, newObj, Sem.run, h1]
    · exact ⟨w.heap.size, by rw [← hi.len]; simp, rfl⟩
/-- A zero variable that is never written. -/
theorem OpJ.allocImm {e : TypeId} {z : PV} (ho : o.op = .alloc e) (hz : zeroI P e = some z) (hc : cellsOk (.p z) = true) : OpJ P N o T H (.p (.ip (cellsP z) 0)) H :=
  OpJ.of_run (by simp [ho]) fun w I ρ a hi ht => by
    obtain ⟨u, h1, h2⟩ := run_zero hz w
    refine ⟨.pointer (some ⟨w.heap.size, 0, none⟩), w.alloc (.cells u.cells e), fun b => I b ∨ b = w.heap.size, ρ, .inl ?_, Ext.allocImm hi _, Inv.allocImm hi _, ?_⟩
    · simp [execOp, ho, Instr.alloc, newVar, newRow, newObj, Sem.run, h1]
    · have h3 := RelVL.pure.1 (cells_rel (P := P) (ρ := ρ) (v := .p z) (h2 I) hc)
      have h4 := RelL.mono (fun _ h => .inl h) (fun b hb => heap_alloc_old w (.cells u.cells e) (hi.ib b hb)) _ _ h3 (I' := fun b => I b ∨ b = w.heap.size) (w' := w.alloc (.cells u.cells e))
      refine ⟨w.heap.size, 0, .inr rfl, by simp, ?_⟩
      have gen : ∀ (cs : List PV) (us : List Value) (k : Nat), (∀ j x, us[j]? = some x → u.cells.toList[k + j]? = some x) → RelL (w.alloc (.cells u.cells e)) (fun b => I b ∨ b = w.heap.size) cs us → RelAt (w.alloc (.cells u.cells e)) (fun b => I b ∨ b = w.heap.size) cs w.heap.size k := by
        intro cs
        induction cs with
        | nil => intro us k _ _; simp [RelAt]
        | cons c cs ih =>
          intro us k hk hr
          obtain ⟨y, us', rfl, h5, h6⟩ := hr
          refine ⟨⟨y, ?_, h5⟩, ih us' (k + 1) (fun j u' hj => by have := hk (j + 1) u' (by simpa using hj); rwa [show k + (j + 1) = k + 1 + j by omega] at this) h6⟩
          have := hk 0 y rfl
          rw [World.cell?_alloc_new]
          simpa using this
      exact gen _ _ 0 (fun j u hj => by simpa using hj) h4

/-! ### Stores -/
def setAt (cs : List V) : Nat → List V → List V
  | _, [] => cs
  | k, v :: vs => setAt (cs.set k v) (k + 1) vs
def astore (H : List Blk) (i off : Nat) (vs : List V) : Option (List Blk) :=
  match H[i]? with
  | some (.cells cs e) => if off + vs.length ≤ cs.length then some (H.set i (.cells (setAt cs off vs) e)) else none
  | some (.row cs e) => if off + vs.length ≤ cs.length then some (H.set i (.row (setAt cs off vs) e)) else none
  | _ => none

theorem setAt_length : ∀ (vs cs : List V) (k : Nat), (setAt cs k vs).length = cs.length
  | [], _, _ => rfl
  | v :: vs, cs, k => by simp [setAt, setAt_length vs]

/-- Storing cells into an own block. -/
theorem run_storeCells_own {w : World} {b : Nat} {e : TypeId} : ∀ (us : List Value) (arr : Array Value) (w : World) (off k : Nat), w.heap[b]? = some (.cells arr e (0, 0)) → off + k + us.length ≤ arr.size → (∀ u ∈ us, oneU u = true) →
    ∃ w' arr', (storeCells ⟨b, off, none⟩ us k).run P w = .ok () w' ∧ w'.heap[b]? = some (.cells arr' e (0, 0)) ∧ arr'.size = arr.size ∧ arr'.toList = (us.foldl (fun (s : List Value × Nat) u => (s.1.set s.2 u, s.2 + 1)) (arr.toList, off + k)).1 ∧
      w'.os = w.os ∧ w'.tape = w.tape ∧ w'.output = w.output ∧ w'.heap.size = w.heap.size ∧ (∀ j, j ≠ b → w'.heap[j]? = w.heap[j]?)
  | [], arr, w, off, k, hb, _, _ => ⟨w, arr, by simp [storeCells], hb, rfl, rfl, rfl, rfl, rfl, rfl, fun _ _ => rfl⟩
  | u :: us, arr, w, off, k, hb, hl, h1 => by
    have hu := h1 u (by simp)
    have hlt : off + k < arr.size := by simp at hl; omega
    have hcell : w.cell? ⟨b, off + k, none⟩ = some (arr[off + k]) := by simp [World.cell?, hb, hlt]
    have hfr : w.frozen? ⟨b, off + k, none⟩ = false := by simp [World.frozen?, hb]
    have hrun : (store ⟨b, off + k, none⟩ u).run P w = .ok () (w.setCell ⟨b, off + k, none⟩ u) := by
      cases u <;> first | (simp [store, Sem.run, hcell, hfr]; done) | cases hu
    have hb' : (w.setCell ⟨b, off + k, none⟩ u).heap[b]? = some (.cells (arr.setIfInBounds (off + k) u) e (0, 0)) := by
      simp [World.setCell, Array.getElem?_modify, hb]
    obtain ⟨w', arr', h2, h3, h4, h5, h6, h7, h8, h9, h10⟩ := run_storeCells_own us (arr.setIfInBounds (off + k) u) (w.setCell ⟨b, off + k, none⟩ u) off (k + 1) hb' (by simp at hl ⊢; omega) (fun v hv => h1 v (by simp [hv])) (w := w)
    refine ⟨w', arr', ?_, h3, by simpa using h4, ?_, h6, h7, h8, by simpa using h9, fun j hj => ?_⟩
    · simp only [storeCells, add_none, Sem.run_bind, hrun, Result.andThen, h2]
    · rw [h5]
      simp only [List.foldl_cons, Array.toList_setIfInBounds]
      rfl
    · rw [h10 j hj]
      simp only [World.setCell, Array.getElem?_modify]
      rw [if_neg (by simpa using fun e => hj e.symm)]

theorem foldl_setAt {w : World} {I : Nat → Prop} {ρ : List Nat} : ∀ (vs : List V) (us : List Value) (cs : List V) (l : List Value) (k : Nat), RelVL P w I ρ vs us → k + vs.length ≤ cs.length → RelVL P w I ρ cs (l.take cs.length) →
    RelVL P w I ρ (setAt cs k vs) (((us.foldl (fun (s : List Value × Nat) u => (s.1.set s.2 u, s.2 + 1)) (l, k)).1).take cs.length)
  | [], us, cs, l, k, h, _, hc => by simp [RelVL] at h; subst h; exact hc
  | v :: vs, us, cs, l, k, h, hl, hc => by
    obtain ⟨u, us', rfl, h1, h2⟩ := h
    simp only [List.foldl_cons, setAt]
    have := foldl_setAt vs us' (cs.set k v) (l.set k u) (k + 1) h2 (by simp at hl ⊢; omega) (by
      have h3 := RelVL.set h1 k hc
      rw [List.length_set, List.take_set]
      exact h3)
    simpa using this

theorem OpJ.store {x y : Operand} {t : TypeId} {b : Bool} {n i off : Nat} {v : V} {H' : List Blk} (ho : o.op = .store t x y) (hx : ev T x = some (.ptr i off)) (hy : ev T y = some v) (hk : cellsOk v = true) (h1 : (cellsV v).all oneV = true)
    (ht : tyI P t = some (b, n)) (hn : (cellsV v).length = n) (hs : astore H i off (cellsV v) = some H') : OpJ P N o T H .top H' :=
  OpJ.of_run (by simp [ho]) fun w I ρ a hi hT => by
    obtain ⟨blk, hρ, hu⟩ := hT.ev hx
    have hv := hT.ev hy
    have hcells := cells_rel hv hk
    have hlen := RelVL.length hcells
    have hone : ∀ u ∈ (a.eval y).cells.toList, oneU u = true := by
      have gen : ∀ (vs : List V) (us : List Value), RelVL P w I ρ vs us → vs.all oneV = true → ∀ u ∈ us, oneU u = true := by
        intro vs
        induction vs with
        | nil => intro us h _ u hu; simp [RelVL] at h; subst h; cases hu
        | cons v vs ih =>
          intro us h ha u hu
          obtain ⟨u0, us', rfl, h3, h4⟩ := h
          simp at ha
          rcases List.mem_cons.1 hu with rfl | hu
          · exact oneCell_of h3 ha.1
          · exact ih us' h4 (by simpa using ha.2) u hu
      exact gen _ _ hcells h1
    have hsz : (a.eval y).cells.size = n := by rw [← hn, ← hlen]; simp
    unfold astore at hs
    have main : ∀ (cs : List V) (e : TypeId) (old new : Blk), H[i]? = some old → old.live = true → blkCells H[i]? = some cs → off + (cellsV v).length ≤ cs.length → H' = H.set i new →
        (∀ w' arr', w'.heap[blk]? = some (.cells arr' e (0, 0)) → cs.length ≤ arr'.size → RelVL P w' I ρ (setAt cs off (cellsV v)) (arr'.toList.take cs.length) → (∀ arr, w.heap[blk]? = some (.cells arr e (0, 0)) → arr'.size = arr.size) → RelB P w' I ρ new blk) → (∀ arr e', w.heap[blk]? = some (.cells arr e' (0, 0)) → e' = e) →
        ∃ u w' I' ρ', ((execOp a.eval o).run P w = .ok (.value u) w' ∨ ((execOp a.eval o).run P w = .ok .skip w' ∧ u = undef)) ∧ Ext w I ρ w' I' ρ' ∧ Inv P w' I' ρ' H' ∧ RelV P w' I' ρ' .top u := by
      intro cs e old new hH hlive hcs hle hnew hrel hety
      obtain ⟨blk', arr, e', hρ', hw, hl, hrelc⟩ := own_cells hi hcs
      rw [hρ] at hρ'; cases hρ'
      have he := hety arr e' hw
      subst he
      obtain ⟨w', arr', r1, r2, r3, r4, r5, r6, r7, r8, r9⟩ := run_storeCells_own (P := P) (w := w) (a.eval y).cells.toList arr w off 0 hw (by rw [hlen]; omega) hone
      have hE : Ext w I ρ w' I ρ := Ext.write hi hρ hH hlive r5 r6 r7 r8 r9 (fun s h => by
        simp only [World.shape?, hw] at h
        simp only [World.shape?, r2, r3]
        exact h)
      have hfold : RelVL P w' I ρ (setAt cs off (cellsV v)) (arr'.toList.take cs.length) := by
        rw [r4]
        exact foldl_setAt _ _ cs arr.toList (off + 0) (RelVL.ext hE hcells) (by simpa using hle) (RelVL.ext hE hrelc)
      refine ⟨undef, w', I, ρ, .inr ⟨?_, rfl⟩, hE, ?_, by simp [RelV]⟩
      · simp [execOp, ho, Instr.storeAt, hu, Instr.sureAddr, storeVar, run_sizeOf' ht, hsz, r1]
      · rw [hnew]
        exact Inv.write hi hρ hH hlive hE r8 r9 (hrel w' arr' r2 (by rw [r3]; exact hl) hfold (fun arr2 h2 => by rw [hw] at h2; cases h2; exact r3))
    split at hs
    · rename_i cs e hH
      split at hs
      · rename_i hle
        simp at hs
        refine main cs e _ (.cells (setAt cs off (cellsV v)) e) hH rfl (by rw [hH]; rfl) hle hs.symm ?_ ?_
        · intro w' arr' hw' hl' hrel hsz'
          obtain ⟨arr, h3, h4⟩ := hi.rel i blk _ hρ hH
          have h5 := RelVL.length h4
          have h6 := hsz' arr h3
          refine ⟨arr', hw', ?_⟩
          have : arr'.toList.take cs.length = arr'.toList := by rw [List.take_of_length_le]; simp [h6]; simpa using Nat.le_of_eq h5
          rw [this] at hrel
          exact hrel
        · intro arr e' h3
          obtain ⟨arr2, h4, _⟩ := hi.rel i blk _ hρ hH
          rw [h3] at h4; cases h4; rfl
      · cases hs
    · rename_i cs e hH
      split at hs
      · rename_i hle
        simp at hs
        refine main cs e _ (.row (setAt cs off (cellsV v)) e) hH rfl (by rw [hH]; rfl) hle hs.symm ?_ ?_
        · intro w' arr' hw' hl' hrel hsz'
          exact ⟨arr', hw', by rw [setAt_length]; exact hl', by rw [setAt_length]; exact hrel⟩
        · intro arr e' h3
          obtain ⟨arr2, h4, _⟩ := hi.rel i blk _ hρ hH
          rw [h3] at h4; cases h4; rfl
      · cases hs
    · cases hs
end
end Go.AF
