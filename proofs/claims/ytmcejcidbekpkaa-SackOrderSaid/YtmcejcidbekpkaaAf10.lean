/-
  Slices that are built, cut, appended to, made and copied, over abstract states. No condition; generic over any program.
-/
import Derived.Test.YtmcejcidbekpkaaAf9
set_option linter.unusedVariables false
set_option linter.unusedSimpArgs false
set_option linter.unnecessarySimpa false
namespace Go.AF
section
variable {P : Program} {R : Option Nat} {N κ : Nat} {Q Q' : Post} {T T' : Tm} {H H' : List Blk} {o : Oper} {ops : Array Oper} {rest : List Oper}

theorem RelVL.ofAlloc {w : World} {I : Nat → Prop} {ρ : List Nat} (hi : Inv P w I ρ H) {vs : List V} {us : List Value} (ob : Obj) (h : RelVL P w I ρ vs us) : RelVL P (w.alloc ob) (fun b => I b ∨ b = w.heap.size) ρ vs us := RelVL.ext (Ext.allocImm hi ob) h

theorem is_new {w : World} {I : Nat → Prop} {ρ : List Nat} (hi : Inv P w I ρ H) {xs : List PV} {arr : Array Value} {e : TypeId} {len cap : Nat} (h : RelVL P w I ρ (xs.map .p) (arr.toList.take xs.length)) (hl : xs.length ≤ arr.size) (hc : len ≤ cap) :
    Rel (w.alloc (.cells arr e)) (fun b => I b ∨ b = w.heap.size) (.is xs len) (.slice (some ⟨w.heap.size, 0, none⟩) len cap) := by
  have h2 := RelVL.pure.1 (RelVL.ofAlloc hi (.cells arr e) h)
  refine .inr ⟨w.heap.size, 0, cap, fun _ => .inr rfl, hc, rfl, RelAt.of_list xs _ 0 h2 fun j u hj => ?_⟩
  rw [List.getElem?_take] at hj
  split at hj
  · rw [World.cell?_alloc_new]
    simpa using hj
  · cases hj

theorem OpJ.buildImm {t e : TypeId} {len : Nat} {parts : Array (Nat × Operand)} {z : List PV} {vs : List (Nat × V)} {r : List V} {xs : List PV} (ho : o.op = .buildSlice t len parts) (hs : slI P t = some (e, z)) (hlen : len * z.length ≤ 16777216) (hv : evParts T parts.toList = some vs)
    (hr : abuild ((List.range len).map fun i => (i * z.length, z.length)) ((List.replicate len z).flatten.map .p) vs = some r) (hp : allP r = some xs) : OpJ P N o T H (.p (.is xs len)) H :=
  OpJ.of_run (by simp [ho]) fun w I ρ a hi hT => by
    obtain ⟨arr, h1, h2, h3⟩ := run_buildSlice (ρ := ρ) hs hlen hT hv hr
    rw [allP_some hp] at h1
    have hl := RelVL.length h1
    simp at hl
    refine ⟨_, _, _, ρ, .inl (by simp only [execOp, ho, Sem.run_bind]; rw [show (Array.map (fun (x : Nat × Operand) => match x with | (i, x) => (i, a.eval x)) parts) = parts.map fun (x : Nat × Operand) => (x.1, a.eval x.2) from rfl, h3]; rfl), Ext.allocImm hi _, Inv.allocImm hi _, ?_⟩
    exact is_new hi (by rw [← hl, ← Array.length_toList, List.take_length]; exact h1) (by omega) (Nat.le_refl _)

theorem OpJ.buildOwn {t e : TypeId} {len : Nat} {parts : Array (Nat × Operand)} {z : List PV} {vs : List (Nat × V)} {r : List V} (ho : o.op = .buildSlice t len parts) (hs : slI P t = some (e, z)) (hlen : len * z.length ≤ 16777216) (hv : evParts T parts.toList = some vs)
    (hr : abuild ((List.range len).map fun i => (i * z.length, z.length)) ((List.replicate len z).flatten.map .p) vs = some r) : OpJ P N o T H (.row H.length len) (H ++ [.row r e]) :=
  OpJ.of_run (by simp [ho]) fun w I ρ a hi hT => by
    obtain ⟨arr, h1, h2, h3⟩ := run_buildSlice (ρ := ρ) hs hlen hT hv hr
    obtain ⟨hu, ⟨b, ht⟩, hz0, hz⟩ := slI_some hs
    have hE : Ext w I ρ (w.alloc (.cells arr e)) I (ρ ++ [w.heap.size]) := Ext.allocOwn hi _
    have hl := RelVL.length h1
    simp at hl
    refine ⟨_, _, _, _, .inl (by simp only [execOp, ho, Sem.run_bind]; rw [show (Array.map (fun (x : Nat × Operand) => match x with | (i, x) => (i, a.eval x)) parts) = parts.map fun (x : Nat × Operand) => (x.1, a.eval x.2) from rfl, h3]; rfl), hE, Inv.allocOwn hi _ ⟨arr, heap_alloc_new w _, by omega, ?_⟩, ?_⟩
    · rw [← hl, List.take_of_length_le (by simp)]
      exact RelVL.ext hE h1
    · refine ⟨w.heap.size, e, len, by rw [← hi.len]; simp, rfl, ?_, Nat.le_refl _⟩
      obtain ⟨d, i, _, h5, _, h6⟩ := tyI_some ht
      simp only [World.shape?, heap_alloc_new, h2, Program.cellsOf, h5, Option.map_some, Option.getD_some, h6]

/-! ### Cutting -/
def bnd (T : Tm) : Option Operand → Nat → Nat → Prop
  | none, d, n => n = d
  | some x, _, n => ∃ k, ev T x = some (.p (.int k (n : Int)))
theorem run_bound {w : World} {k : IntKind} {n y : Nat} {code : BoundsCode} (h : n ≤ y) : (Instr.sliceBound (.int k (n : Int)) y code).run P w = .ok n w := by
  have h1 : (0 : Int) ≤ n := by omega
  have h2 : (n : Int) ≤ (y : Int) := by omega
  simp [Instr.sliceBound, run_asIntOf, h1, h2]
theorem run_bounds {w : World} {I : Nat → Prop} {ρ : List Nat} {a : Act} (hT : TRel P w I ρ N T a.tmps) {lo hi : Option Operand} {isS : Bool} {len cap l h : Nat} (hl : bnd T lo 0 l) (hh : bnd T hi len h) (h1 : l ≤ h) (h2 : h ≤ cap) :
    (Instr.sliceBounds isS len cap (lo.map a.eval) (hi.map a.eval) none).run P w = .ok (l, h, cap) w := by
  have e1 : ∀ x : Operand, hi = some x → ∃ k, a.eval x = .int k (h : Int) := fun x hx => by
    subst hx
    obtain ⟨k, hk⟩ := hh
    exact ⟨k, ev_int hT hk⟩
  have e2 : ∀ x : Operand, lo = some x → ∃ k, a.eval x = .int k (l : Int) := fun x hx => by
    subst hx
    obtain ⟨k, hk⟩ := hl
    exact ⟨k, ev_int hT hk⟩
  cases hi with
  | none =>
    simp only [bnd] at hh
    subst hh
    cases lo with
    | none =>
      simp only [bnd] at hl
      subst hl
      simp [Instr.sliceBounds]
    | some x =>
      obtain ⟨k, hk⟩ := e2 x rfl
      simp [Instr.sliceBounds, hk, run_bound h1]
  | some y =>
    obtain ⟨k', hk'⟩ := e1 y rfl
    cases lo with
    | none =>
      simp only [bnd] at hl
      subst hl
      simp [Instr.sliceBounds, hk', run_bound h2]
    | some x =>
      obtain ⟨k, hk⟩ := e2 x rfl
      simp [Instr.sliceBounds, hk, hk', run_bound h1, run_bound h2]

theorem OpJ.sliceIs {x : Operand} {t : TypeId} {lo hi : Option Operand} {cs r : List PV} {len l h sz : Nat} (ho : o.op = .slice t x lo hi none) (hx : ev T x = some (.p (.is cs len))) (ht : isSl P t = true) (he : elI P t = some sz) (hl : bnd T lo 0 l) (hh : bnd T hi len h) (h1 : l ≤ h) (h2 : h ≤ len)
    (hr : (cs.drop (l * sz)).take ((h - l) * sz) = r) : OpJ P N o T H (.p (.is r (h - l))) H :=
  OpJ.of_pure (by simp [ho]) fun w I ρ a hi' hT => by
    cases hu : P.underlying t with
    | none => simp [isSl, hu] at ht
    | some d =>
      cases d <;> simp [isSl, hu] at ht
      rename_i e
      simp only [elI, hu, Option.map_eq_some_iff] at he
      obtain ⟨⟨b, m⟩, htm, rfl⟩ := he
      rcases hT.ev hx with ⟨⟨ad, cp, hsl⟩, hz⟩ | ⟨blk, off, cap, hb, hle, hsl, hat⟩
      · subst hz
        have hl0 : l = 0 := by omega
        have hh0 : h = 0 := by omega
        subst hl0 hh0
        have hbs := run_bounds (isS := true) (cap := cp) hT hl hh (Nat.le_refl _) (Nat.zero_le _)
        cases ad with
        | none =>
          refine ⟨.slice none 0 cp, ?_, ?_⟩
          · simp [execOp, ho, Instr.sliceAt, run_underlying hu, hsl, Instr.slice, hbs, run_sizeOf' htm]
          · exact .inl ⟨⟨_, _, rfl⟩, by simp⟩
        | some ad =>
          refine ⟨.slice (some ad) 0 cp, ?_, ?_⟩
          · simp [execOp, ho, Instr.sliceAt, run_underlying hu, hsl, Instr.slice, hbs, run_sizeOf' htm, Addr.add]
          · exact .inl ⟨⟨_, _, rfl⟩, by simp⟩
      · have hbs := run_bounds (isS := true) (cap := cap) hT hl hh h1 (by omega)
        refine ⟨.slice (if cap = l then some ⟨blk, off, none⟩ else some ⟨blk, off + l * m, none⟩) (h - l) (cap - l), ?_, ?_⟩
        · simp [execOp, ho, Instr.sliceAt, run_underlying hu, hsl, Instr.slice, hbs, run_sizeOf' htm, add_none]
        · by_cases hc : cap = l
          · have : h - l = 0 := by omega
            rw [this, Nat.zero_mul, List.take_zero] at hr
            subst hr
            rw [if_pos hc, this]
            exact .inr ⟨blk, off, cap - l, fun h => absurd rfl h, by omega, rfl, by simp [RelAt]⟩
          · rw [if_neg hc, ← hr]
            refine .inr ⟨blk, off + l * m, cap - l, fun hn => hb (fun h0 => hn (by rw [h0]; simp)), by omega, rfl, RelAt.take _ (RelAt.drop _ hat)⟩

theorem OpJ.sliceStr {x : Operand} {t : TypeId} {lo hi : Option Operand} {s : ByteArray} {l h : Nat} (ho : o.op = .slice t x lo hi none) (hx : ev T x = some (.p (.str s))) (ht : P.underlying t = some .string) (hl : bnd T lo 0 l) (hh : bnd T hi s.size h) (h1 : l ≤ h) (h2 : h ≤ s.size) :
    OpJ P N o T H (.p (.str (s.extract l h))) H :=
  OpJ.of_pure (by simp [ho]) fun w I ρ a hi' hT => by
    have hst := ev_str hT hx
    have hbs := run_bounds (isS := false) (cap := s.size) hT hl hh h1 h2
    exact ⟨.string (s.extract l h), by simp [execOp, ho, Instr.sliceAt, run_underlying ht, hst, Instr.slice, hbs], by simp [RelV, Rel]⟩

/-- A slice over a variable that holds an array. -/
theorem OpJ.sliceArr {x : Operand} {t : TypeId} {lo hi : Option Operand} {cs r : List PV} {off len l h sz : Nat} (ho : o.op = .slice t x lo hi none) (hx : ev T x = some (.p (.ip cs off))) (ht : arrI P t = some len) (he : elI P t = some sz) (hl : bnd T lo 0 l) (hh : bnd T hi len h) (h1 : l ≤ h) (h2 : h ≤ len)
    (hr : (cs.drop (off + l * sz)).take ((h - l) * sz) = r) : OpJ P N o T H (.p (.is r (h - l))) H :=
  OpJ.of_pure (by simp [ho]) fun w I ρ a hi' hT => by
    cases hu : P.underlying t with
    | none => simp [arrI, hu] at ht
    | some d =>
      cases d <;> simp [arrI, hu] at ht
      rename_i n e
      subst ht
      simp only [elI, hu, Option.map_eq_some_iff] at he
      obtain ⟨⟨b, m⟩, htm, rfl⟩ := he
      obtain ⟨blk, o', hb, hsl, hat⟩ := hT.ev hx
      have hbs := run_bounds (isS := false) (cap := n) hT hl hh h1 h2
      refine ⟨.slice (some (if n = l then ⟨blk, o' + off, none⟩ else ⟨blk, o' + off + l * m, none⟩)) (h - l) (n - l), ?_, ?_⟩
      · simp [execOp, ho, Instr.sliceAt, run_underlying hu, hsl, Instr.sureAddr, hbs, run_sizeOf' htm, add_none]
      · by_cases hc : n = l
        · have : h - l = 0 := by omega
          rw [this, Nat.zero_mul, List.take_zero] at hr
          subst hr
          rw [if_pos hc, this]
          exact .inr ⟨blk, o' + off, n - l, fun h => absurd rfl h, by omega, rfl, by simp [RelAt]⟩
        · rw [if_neg hc, ← hr]
          refine .inr ⟨blk, o' + off + l * m, n - l, fun hn => hb, by omega, rfl, ?_⟩
          have := RelAt.take ((h - l) * m) (RelAt.drop (off + l * m) hat)
          rwa [show o' + (off + l * m) = o' + off + l * m by omega] at this

/-! ### Appending -/
/-- The cells of a source of n elements. -/
def asrc (H : List Blk) (sz : Nat) : V → Option (List V × Nat)
  | .p (.is ys n) => if ys.length = n * sz then some (ys.map .p, n) else none
  | .p .nilSlice => some ([], 0)
  | .row j n => match blkCells H[j]? with
    | some cs => if n * sz ≤ cs.length then some (cs.take (n * sz), n) else none
    | none => none
  | .sl j off n => match blkCells H[j]? with
    | some cs => if off + n * sz ≤ cs.length then some ((cs.drop off).take (n * sz), n) else none
    | none => none
  | _ => none

theorem run_asrc {w : World} {I : Nat → Prop} {ρ : List Nat} {sz n : Nat} {y : V} {ys : List V} {u : Value} (hi : Inv P w I ρ H) (hy : RelV P w I ρ y u) (h : asrc H sz y = some (ys, n)) :
    ∃ us : List Value, (∃ ad cap, u = .slice ad n cap) ∧ (∀ w' : World, (∀ b, b < w.heap.size → w'.heap[b]? = w.heap[b]?) → (Builtin.firstCells sz n u).run P w' = .ok us.toArray w') ∧ (∀ k, k ≤ n → (Builtin.firstCells sz k u).run P w = .ok (us.take (k * sz)).toArray w) ∧ RelVL P w I ρ ys us ∧ us.length = n * sz := by
  have fin : ∀ (blk off cap : Nat) (us : List Value), u = .slice (some ⟨blk, off, none⟩) n cap → us.length = n * sz → (∀ j v, us[j]? = some v → w.cell? ⟨blk, off + j, none⟩ = some v) → RelVL P w I ρ ys us →
      ∃ us : List Value, (∃ ad cap, u = .slice ad n cap) ∧ (∀ w' : World, (∀ b, b < w.heap.size → w'.heap[b]? = w.heap[b]?) → (Builtin.firstCells sz n u).run P w' = .ok us.toArray w') ∧ (∀ k, k ≤ n → (Builtin.firstCells sz k u).run P w = .ok (us.take (k * sz)).toArray w) ∧ RelVL P w I ρ ys us ∧ us.length = n * sz := by
    intro blk off cap us hu hl hc hr
    refine ⟨us, ⟨_, _, hu⟩, fun w' hw' => ?_, fun k hk => ?_, hr, hl⟩
    · rw [hu]
      have := run_loadCells_list (P := P) w' ⟨blk, off, none⟩ us (fun j v hj => by
        rw [add_none]
        have h1 := hc j v hj
        have hlt := World.block_lt_of_cell? _ _ h1
        exact (cell_of_block (hw' blk hlt)).trans h1)
      rw [hl] at this
      simpa [Builtin.firstCells] using this
    · rw [hu]
      have := run_loadCells_list (P := P) w ⟨blk, off, none⟩ (us.take (k * sz)) (fun j v hj => by
        rw [add_none]
        rw [List.getElem?_take] at hj
        split at hj
        · exact hc j v hj
        · cases hj)
      rw [List.length_take, hl, Nat.min_eq_left (Nat.mul_le_mul_right _ hk)] at this
      simpa [Builtin.firstCells] using this
  unfold asrc at h
  split at h
  · rename_i xs m
    split at h
    · rename_i hlen
      simp at h
      obtain ⟨rfl, rfl⟩ := h
      rcases hy with ⟨⟨ad, cp, hu⟩, hz⟩ | ⟨b, o', cap, hb, hle, hu, hat⟩
      · subst hz
        have hcs : xs = [] := by simpa using hlen
        subst hcs
        refine ⟨[], ⟨_, _, hu⟩, fun w' _ => by rw [hu]; cases ad <;> simp [Builtin.firstCells, loadCells, loadCellsFrom], fun k hk => ?_, by simp [RelVL], by simp⟩
        have : k = 0 := by omega
        subst this
        rw [hu]; cases ad <;> simp [Builtin.firstCells, loadCells, loadCellsFrom]
      · obtain ⟨us, h1, h2, h3⟩ := RelAt.list hat
        exact fin b o' cap us hu (by rw [h2, hlen]) h3 (RelVL.pure.2 h1)
    · cases h
  · simp at h
    obtain ⟨rfl, rfl⟩ := h
    have hu : u = .slice none 0 0 := hy
    refine ⟨[], ⟨_, _, hu⟩, fun w' _ => by rw [hu]; simp [Builtin.firstCells], fun k hk => ?_, by simp [RelVL], by simp⟩
    rw [hu]; simp [Builtin.firstCells]
  · rename_i j m
    split at h
    · rename_i cs hc
      split at h
      · rename_i hle
        simp at h
        obtain ⟨rfl, rfl⟩ := h
        obtain ⟨b, e, cap, hρ, hu, _, _⟩ := hy
        obtain ⟨b', arr, e', hρ', hw, hl, hr⟩ := own_cells hi hc
        rw [hρ] at hρ'; cases hρ'
        refine fin b 0 cap ((arr.toList.take cs.length).take (m * sz)) hu (by simp; omega) (fun j v hj => ?_) (RelVL.take _ hr)
        rw [List.getElem?_take] at hj
        split at hj
        · rw [List.getElem?_take] at hj
          split at hj
          · simp only [World.cell?, hw]
            simpa using hj
          · cases hj
        · cases hj
      · cases h
    · cases h
  · rename_i j off m
    split at h
    · rename_i cs hc
      split at h
      · rename_i hle
        simp at h
        obtain ⟨rfl, rfl⟩ := h
        obtain ⟨b, cap, hρ, hu, _⟩ := hy
        obtain ⟨b', arr, e', hρ', hw, hl, hr⟩ := own_cells hi hc
        rw [hρ] at hρ'; cases hρ'
        refine fin b off cap (((arr.toList.take cs.length).drop off).take (m * sz)) hu (by simp; omega) (fun j v hj => ?_) (RelVL.take _ (RelVL.drop _ hr))
        rw [List.getElem?_take] at hj
        split at hj
        · rw [List.getElem?_drop, List.getElem?_take] at hj
          split at hj
          · simp only [World.cell?, hw]
            simpa using hj
          · cases hj
        · cases hj
      · cases h
    · cases h
  · cases h

theorem nextcap_le {need cap : Nat} (h : cap < need) : Builtin.nextslicecap need cap ≤ 2 * need + 192 := by
  unfold Builtin.nextslicecap
  split
  · omega
  · split
    · omega
    · have grow : ∀ (r c : Nat), c < need → Builtin.growBy need r c ≤ 2 * need + 192 := by
        intro r
        induction r with
        | zero => intro c hc; simp [Builtin.growBy]; omega
        | succ r ih =>
          intro c hc
          simp only [Builtin.growBy]
          rw [if_neg (by omega)]
          by_cases h2 : c + (c + 768) / 4 < need
          · exact ih _ h2
          · cases r with
            | zero => simp only [Builtin.growBy]; omega
            | succ r => simp only [Builtin.growBy]; rw [if_pos (by omega)]; omega
      exact grow 4 cap h

theorem setAt_append (cs : List V) : ∀ (vs ts pre : List V), ts.length = vs.length → setAt (cs ++ pre ++ ts) (cs.length + pre.length) vs = cs ++ pre ++ vs
  | [], ts, pre, h => by
    have : ts = [] := by simpa using h
    subst this
    simp [setAt]
  | v :: vs, ts, pre, h => by
    match ts, h with
    | t :: ts, h =>
      simp only [setAt]
      have e1 : (cs ++ pre ++ t :: ts).set (cs.length + pre.length) v = cs ++ (pre ++ [v]) ++ ts := by
        rw [show cs.length + pre.length = (cs ++ pre).length by simp, List.set_append_right _ _ (Nat.le_refl _)]
        simp
      rw [e1]
      have := setAt_append cs vs ts (pre ++ [v]) (by simpa using h)
      rw [show cs.length + pre.length + 1 = cs.length + (pre ++ [v]).length by simp; omega, this]
      simp

theorem RelVL.tops {w : World} {I : Nat → Prop} {ρ : List Nat} : ∀ (us : List Value), RelVL P w I ρ (List.replicate us.length .top) us
  | [] => by simp [RelVL]
  | u :: us => ⟨u, us, rfl, trivial, RelVL.tops us⟩

/-- Bytes of an element. -/
def byI (P : Program) (e : TypeId) : Option Nat := (P.info? e).map (·.bytes)

theorem one_of {w : World} {I : Nat → Prop} {ρ : List Nat} : ∀ {vs : List V} {us : List Value}, RelVL P w I ρ vs us → vs.all oneV = true → ∀ u ∈ us, oneU u = true
  | [], us, h, _, u, hu => by simp [RelVL] at h; subst h; cases hu
  | v :: vs, us, h, ha, u, hu => by
    obtain ⟨u0, us', rfl, h3, h4⟩ := h
    simp only [List.all_cons, Bool.and_eq_true] at ha
    rcases List.mem_cons.1 hu with rfl | hu
    · exact oneCell_of h3 ha.1
    · exact one_of h4 ha.2 u hu

theorem run_append_grow {w : World} {t t2 e d2 : TypeId} {ty : TypeId} {bb : Bool} {sz len cap n ycap : Nat} {base ad : Option Addr} {inf : TypeInfo} {old new : Array Value} {uz : Value} (hu : P.underlying t = some (.slice e)) (htk : tyI P e = some (bb, sz)) (hd2 : P.underlying t2 = some (.slice d2))
    (hinf : P.info? e = some inf) (hsmall : ¬ (Builtin.nextslicecap (len + n) cap * inf.bytes > 2 ^ 48)) (hneed : ((len + n : Nat) : Int) ≤ IntKind.i64.max) (hroom : ¬ len + n ≤ cap) (hold : (Builtin.firstCells sz len (.slice base len cap)).run P w.drew = .ok old w.drew)
    (hnew : (Builtin.firstCells sz n (.slice ad n ycap)).run P w.drew = .ok new w.drew) (hz : (zeroValue e).run P w.drew = .ok uz w.drew) :
    (Builtin.append_ #[t, t2] ty #[.slice base len cap, .slice ad n ycap]).run P w = .ok (.slice (some ⟨w.heap.size, 0, none⟩) (len + n) ((Question.appendCap (len + n) cap e).cut (w.tape w.drawn (.appendCap (len + n) cap e))))
      (w.drew.alloc (.cells (old ++ new ++ Builtin.zeroCells uz.cells ((Question.appendCap (len + n) cap e).cut (w.tape w.drawn (.appendCap (len + n) cap e)) - (len + n))) e)) := by
  have hask : ∀ k w, (askRoom k).run P w = .ok () w := fun k w => by
    unfold askRoom
    split <;> simp [mark, Sem.run]
  have hch : (choose (.appendCap (len + n) cap e)).run P w = .ok ((Question.appendCap (len + n) cap e).cut (w.tape w.drawn (.appendCap (len + n) cap e))) w.drew := by
    simp [choose, Sem.run, Question.forced]
  have h1 : ¬ (9223372036854775807 < (len : Int) + (n : Int)) := by
    have h2 : IntKind.i64.max = 9223372036854775807 := by decide
    rw [h2] at hneed
    omega
  have hsmall2 : ¬ (281474976710656 < Builtin.nextslicecap (len + n) cap * inf.bytes) := by
    have h2 : (2 : Nat) ^ 48 = 281474976710656 := by decide
    omega
  have hf : (Question.appendCap (len + n) cap e).forced = false := rfl
  simp [Builtin.append_, run_underlying hu, run_sizeOf' htk, run_underlying hd2, Builtin.lenOf, hroom]
  simp only [run_typeInfo w hinf, Result.andThen]
  simp [h1, hsmall2, hf, run_typeInfo w hinf, hch, run_typeInfo w.drew hinf, hask, hold, hnew, hz, newRow, newObj, Sem.run]
  rfl

theorem OpJ.appendRow {x y : Operand} {t t2 e : TypeId} {z : List PV} {i len n by_ : Nat} {cs ys : List V} {yv : V} (ho : o.op = .call { callee := .builtin .append, args := #[x, y], argTypes := #[t, t2] }) (hx : ev T x = some (.row i len)) (hy : ev T y = some yv) (hs : slI P t = some (e, z)) (ht2 : isSl P t2 = true)
    (hH : H[i]? = some (.row cs e)) (hcs : cs.length = len * z.length) (hsrc : asrc H z.length yv = some (ys, n)) (hone : ys.all oneV = true) (hby : byI P e = some by_) (hb0 : 0 < by_) (hb : (2 * (len + n) + 192) * by_ ≤ 281474976710656) :
    OpJ P N o T H (.row H.length (len + n)) (H.set i .dead ++ [.row (cs ++ ys) e]) :=
  OpJ.of_run (by simp [ho]) fun w I ρ a hi hT => by
    obtain ⟨hu, ⟨bb, htk⟩, hz0, hz⟩ := slI_some hs
    obtain ⟨b, e', cap, hρ, hxu, hsh, hle⟩ := hT.ev hx
    obtain ⟨us, ⟨ad, ycap, hyu⟩, hfc, _, hrel, hlen⟩ := run_asrc hi (hT.ev hy) hsrc
    obtain ⟨arr, hw, hal, har⟩ := hi.rel i b _ hρ hH
    have hce : P.cellsOf e = z.length := by
      obtain ⟨d, inf, _, h5, _, h6⟩ := tyI_some htk
      simp [Program.cellsOf, h5, h6]
    have hsz : e' = e ∧ arr.size = cap * z.length := by
      simp only [World.shape?, hw, Option.some.injEq, Prod.mk.injEq] at hsh
      obtain ⟨h1, h2⟩ := hsh
      subst h1
      exact ⟨rfl, by rw [h2, hce]⟩
    obtain ⟨rfl, hsz⟩ := hsz
    have hinfo : ∃ inf, P.info? e' = some inf ∧ inf.bytes = by_ := by
      unfold byI at hby
      cases h : P.info? e' with
      | none => rw [h] at hby; cases hby
      | some inf => rw [h] at hby; simp at hby; exact ⟨inf, rfl, hby⟩
    obtain ⟨inf, hinf, hbyt⟩ := hinfo
    have hd2 : ∃ d2, P.underlying t2 = some (.slice d2) := by
      cases h : P.underlying t2 with
      | none => simp [isSl, h] at ht2
      | some d => cases d <;> simp [isSl, h] at ht2; exact ⟨_, rfl⟩
    obtain ⟨d2, hd2⟩ := hd2
    have hun : ∀ u ∈ us, oneU u = true := one_of hrel hone
    have hyl := RelVL.length hrel
    have hlive : (Blk.row cs e').live = true := rfl
    have hcl := RelVL.length har
    by_cases hroom : len + n ≤ cap
    · -- there is room
      have hfit : len * z.length + 0 + us.length ≤ arr.size := by
        rw [hlen, hsz, Nat.add_zero, ← Nat.add_mul]
        exact Nat.mul_le_mul_right _ hroom
      obtain ⟨w', arr', r1, r2, r3, r4, r5, r6, r7, r8, r9⟩ := run_storeCells_own (P := P) (w := w) us arr w (len * z.length) 0 hw hfit hun
      have hE : Ext w I ρ w' I ρ := Ext.write hi hρ hH hlive r5 r6 r7 r8 r9 (fun s h => by
        simp only [World.shape?, hw] at h
        simp only [World.shape?, r2, r3]
        exact h)
      have hfold : RelVL P w' I ρ (cs ++ ys) (arr'.toList.take (cs ++ ys).length) := by
        have h0 : RelVL P w I ρ (cs ++ List.replicate ys.length .top) (arr.toList.take (cs ++ List.replicate ys.length V.top).length) := by
          have e1 : arr.toList.take (cs ++ List.replicate ys.length V.top).length = arr.toList.take cs.length ++ (arr.toList.drop cs.length).take ys.length := by
            rw [List.length_append, List.length_replicate, List.take_add]
          rw [e1]
          refine RelVL.append har ?_
          have e2 : ((arr.toList.drop cs.length).take ys.length).length = ys.length := by
            simp only [List.length_take, List.length_drop, Array.length_toList]
            rw [hcs, ← hyl, hlen, hsz, ← Nat.sub_mul]
            exact Nat.min_eq_left (Nat.mul_le_mul_right _ (by omega))
          have := RelVL.tops (P := P) (w := w) (I := I) (ρ := ρ) ((arr.toList.drop cs.length).take ys.length)
          rw [e2] at this
          exact this
        have := foldl_setAt (P := P) (w := w') (I := I) (ρ := ρ) ys us (cs ++ List.replicate ys.length .top) arr.toList (len * z.length + 0) (RelVL.ext hE hrel) (by simp [hcs]) (RelVL.ext hE h0)
        have e3 := setAt_append cs ys (List.replicate ys.length .top) [] (by simp)
        simp only [List.append_nil, List.length_nil] at e3
        rw [Nat.add_zero, ← hcs] at this
        rw [Nat.add_zero] at e3
        rw [e3] at this
        rw [r4, Nat.add_zero, ← hcs]
        have e4 : (cs ++ List.replicate ys.length V.top).length = (cs ++ ys).length := by simp
        rw [e4] at this
        exact this
      have hE2 : Ext w' I ρ w' I (ρ ++ [b]) := ⟨⟨rfl, rfl, rfl, Nat.le_refl _, fun _ _ _ => rfl, fun _ _ h => h, fun _ h => h, fun _ _ => rfl, fun _ h => .inl h, fun _ h => h, fun _ _ h => h, fun k hk => by
        rcases List.mem_append.1 hk with h | h
        · exact .inl h
        · simp at h; subst h; exact .inl (List.mem_of_getElem? hρ)⟩, ⟨_, rfl⟩⟩
      have hi1 : Inv P w' I ρ (H.set i .dead) := Inv.write hi hρ hH hlive hE r8 r9 trivial
      have hilt : i < H.length := (List.getElem?_eq_some_iff.1 hH).1
      have hi2 : Inv P w' I (ρ ++ [b]) (H.set i .dead ++ [.row (cs ++ ys) e']) := by
        refine ⟨by simp [hi.len], fun j k blk h1 h2 h3 => ?_, hi1.ib, fun j k blk h1 h2 h3 h4 => ?_, fun j j' k bx by2 h1 h2 h3 h4 h5 h6 => ?_, fun j k blk h1 h2 => ?_⟩
        · rcases get_append_one h1 with ⟨h5, h6⟩ | ⟨h5, h6⟩
          · rw [List.getElem?_append_left (by simp [← hi.len]; exact h5)] at h2
            exact hi1.bnd j k blk h6 h2 h3
          · subst h6
            rw [r8]; exact hi.bnd i k _ hρ hH hlive
        · rcases get_append_one h1 with ⟨h5, h6⟩ | ⟨h5, h6⟩
          · rw [List.getElem?_append_left (by simp [← hi.len]; exact h5)] at h2
            exact hi1.live j k blk h6 h2 h3 h4
          · subst h6
            exact hi.live i k _ hρ hH hlive h4
        · rcases get_append_one h1 with ⟨h7, h8⟩ | ⟨h7, h8⟩ <;> rcases get_append_one h2 with ⟨h9, h10⟩ | ⟨h9, h10⟩
          · rw [List.getElem?_append_left (by simp [← hi.len]; exact h7)] at h3
            rw [List.getElem?_append_left (by simp [← hi.len]; exact h9)] at h4
            exact hi1.dist j j' k bx by2 h8 h10 h3 h4 h5 h6
          · subst h10
            rw [List.getElem?_append_left (by simp [← hi.len]; exact h7)] at h3
            exfalso
            by_cases hji : i = j
            · subst hji
              simp [hilt] at h3
              subst h3
              cases h5
            · rw [List.getElem?_set_ne hji] at h3
              exact hji (hi.dist i j k _ bx hρ h8 hH h3 hlive h5)
          · subst h8
            rw [List.getElem?_append_left (by simp [← hi.len]; exact h9)] at h4
            exfalso
            by_cases hji : i = j'
            · subst hji
              simp [hilt] at h4
              subst h4
              cases h6
            · rw [List.getElem?_set_ne hji] at h4
              exact hji (hi.dist i j' k _ by2 hρ h10 hH h4 hlive h6)
          · omega
        · rcases get_append_one h1 with ⟨h5, h6⟩ | ⟨h5, h6⟩
          · rw [List.getElem?_append_left (by simp [← hi.len]; exact h5)] at h2
            exact RelB.ext hE2 hi1 h6 h2 rfl
          · subst h6
            have hj : j = (H.set i .dead).length := by simp [← hi.len]; exact h5
            subst hj
            simp at h2
            subst h2
            refine ⟨arr', r2, ?_, RelVL.ext hE2 hfold⟩
            rw [r3, List.length_append, hcs, ← hyl, hlen, hsz, ← Nat.add_mul]
            exact Nat.mul_le_mul_right _ hroom
      refine ⟨.slice (some ⟨b, 0, none⟩) (len + n) cap, w', I, ρ ++ [b], .inl ?_, hE.trans hE2, hi2, b, e', cap, by rw [← hi.len]; simp, rfl, ?_, hroom⟩
      · simp [execOp, ho, resolve, invoke, builtin, Builtin.append_, run_underlying hu, hxu, run_sizeOf' htk, run_underlying hd2, hyu, Builtin.lenOf, hroom]
        rw [hyu] at hfc
        simp only [hfc w (fun _ _ => rfl), Result.andThen, add_none, Nat.zero_add, r1]
      · simp only [World.shape?, r2, r3, hsz, hce]
    · -- a new array
      have hcut : ∀ q, len + n ≤ (Question.appendCap (len + n) cap e').cut q := fun q => Nat.le_add_right _ _
      obtain ⟨uz, hz1, hz2⟩ := hz w.drew
      have hzl := RelL.length (hz2 I)
      have hzsz : uz.cells.size = z.length := by simpa using hzl
      have hnext := nextcap_le (need := len + n) (cap := cap) (by omega)
      have hsmall : ¬ (Builtin.nextslicecap (len + n) cap * by_ > 2 ^ 48) := by
        have h1 := Nat.mul_le_mul_right by_ hnext
        have h2 : (2 : Nat) ^ 48 = 281474976710656 := by decide
        omega
      let newCap := (Question.appendCap (len + n) cap e').cut (w.tape w.drawn (.appendCap (len + n) cap e'))
      have hnc : len + n ≤ newCap := hcut _
      have hold : (Builtin.firstCells z.length len (.slice (some ⟨b, 0, none⟩) len cap)).run P w.drew = .ok (arr.toList.take (len * z.length)).toArray w.drew := by
        have := run_loadCells_list (P := P) w.drew ⟨b, 0, none⟩ (arr.toList.take (len * z.length)) (fun j v hj => by
          rw [add_none, Nat.zero_add]
          rw [List.getElem?_take] at hj
          split at hj
          · show w.cell? _ = _
            simp only [World.cell?, hw]
            simpa using hj
          · cases hj)
        have hl2 : (arr.toList.take (len * z.length)).length = len * z.length := by
          simp only [List.length_take, Array.length_toList]; rw [hsz]; exact Nat.min_eq_left (Nat.mul_le_mul_right _ hle)
        rw [hl2] at this
        simpa [Builtin.firstCells] using this
      have hnew := hfc w.drew (fun _ _ => rfl)
      let arr2 : Array Value := (arr.toList.take (len * z.length)).toArray ++ us.toArray ++ Builtin.zeroCells uz.cells (newCap - (len + n))
      have hE1 : Ext w I ρ w.drew I ρ := Ext.drew
      have hi1 : Inv P w.drew I ρ H := hi.drew
      have hE2 : Ext w.drew I ρ (w.drew.alloc (.cells arr2 e')) I (ρ ++ [w.drew.heap.size]) := Ext.allocOwn hi1 _
      have hi2 : Inv P (w.drew.alloc (.cells arr2 e')) I (ρ ++ [w.drew.heap.size]) (H ++ [.row (cs ++ ys) e']) := by
        refine Inv.allocOwn hi1 _ ⟨arr2, heap_alloc_new _ _, ?_, RelVL.ext hE2 (RelVL.ext hE1 ?_)⟩
        · simp only [arr2, Array.size_append, List.length_append]
          rw [hcs, ← hyl]
          simp
          rw [hsz]
          have := Nat.mul_le_mul_right z.length hle
          omega
        · have e1 : arr2.toList.take (cs ++ ys).length = arr.toList.take cs.length ++ us := by
            simp only [arr2, Array.toList_append]
            rw [List.append_assoc, List.take_append]
            have hl2 : (arr.toList.take (len * z.length)).length = len * z.length := by
              simp only [List.length_take, Array.length_toList]; rw [hsz]; exact Nat.min_eq_left (Nat.mul_le_mul_right _ hle)
            have e3 : (cs ++ ys).length = len * z.length + us.length := by rw [List.length_append, hcs, hyl]
            simp only [hl2, e3, hcs]
            rw [List.take_of_length_le (by rw [hl2]; omega), Nat.add_sub_cancel_left, List.take_append_of_le_length (Nat.le_refl _), List.take_length]
          rw [e1]
          exact RelVL.append har hrel
      have hilt : i < H.length := (List.getElem?_eq_some_iff.1 hH).1
      have hi3 : Inv P (w.drew.alloc (.cells arr2 e')) I (ρ ++ [w.drew.heap.size]) (H.set i .dead ++ [.row (cs ++ ys) e']) := by
        have hset : H.set i .dead ++ [Blk.row (cs ++ ys) e'] = (H ++ [Blk.row (cs ++ ys) e']).set i .dead := by rw [List.set_append_left _ _ hilt]
        rw [hset]
        have hρ2 : (ρ ++ [w.drew.heap.size])[i]? = some b := by
          rw [List.getElem?_append_left (by rw [hi.len]; exact hilt)]
          exact hρ
        have hH2 : (H ++ [Blk.row (cs ++ ys) e'])[i]? = some (Blk.row cs e') := by
          rw [List.getElem?_append_left hilt]; exact hH
        exact Inv.write hi2 hρ2 hH2 hlive (Ext.refl _ _ _) rfl (fun _ _ => rfl) trivial
      refine ⟨.slice (some ⟨w.heap.size, 0, none⟩) (len + n) newCap, w.drew.alloc (.cells arr2 e'), I, ρ ++ [w.drew.heap.size], .inl ?_, hE1.trans hE2, hi3, w.heap.size, e', newCap, by rw [← hi.len]; simp, rfl, ?_, hnc⟩
      · rw [hyu] at hnew
        have hneed : ((len + n : Nat) : Int) ≤ IntKind.i64.max := by
          have h1 := Nat.le_mul_of_pos_right (2 * (len + n) + 192) hb0
          have h2 : IntKind.i64.max = 9223372036854775807 := by decide
          rw [h2]
          omega
        have := run_append_grow (P := P) (w := w) (t := t) (t2 := t2) (ty := o.type) hu htk hd2 hinf (by rw [hbyt]; exact hsmall) hneed hroom hold hnew hz1
        simp only [execOp, ho, resolve, invoke, builtin, Sem.run_bind]
        simp only [Sem.run_pure, Result.andThen, List.map_toArray, List.map_cons, List.map_nil, hxu, hyu, Sem.run_bind, this]
        rfl
      · simp only [World.shape?]
        show (match (w.drew.alloc (.cells arr2 e')).heap[w.drew.heap.size]? with | some (.cells c elem _) => some (elem, c.size) | _ => none) = _
        rw [heap_alloc_new]
        simp only [arr2, Array.size_append, hce, Builtin.zeroCells]
        simp
        rw [hlen, hzsz, hsz, Nat.min_eq_left (Nat.mul_le_mul_right _ hle), ← Nat.add_mul, ← Nat.add_mul]
        congr 1
        omega
end
end Go.AF
