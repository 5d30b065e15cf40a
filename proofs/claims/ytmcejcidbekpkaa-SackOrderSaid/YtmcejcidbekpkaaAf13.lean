/-
  Maps, over abstract states. No condition; generic over any program.
-/
import Derived.Test.YtmcejcidbekpkaaAf12
import Derived.Maps.RangeRun
set_option linter.unusedVariables false
set_option linter.unusedSimpArgs false
set_option linter.unnecessarySimpa false
set_option linter.unusedSectionVars false
namespace Go.AF

/-- Keys that are compared at once. -/
structure KeyOk {K : Type} [DecidableEq K] (enc : K → PV) (d : TypeDesc) where
  val : K → Value
  rel : ∀ (w : World) (I : Nat → Prop) (a : K) (u : Value), Rel w I (enc a) u ↔ u = val a
  same : ∀ a b, Instr.sameNow d (val a) (val b) = some (decide (a = b))
  check : ∀ (P : Program) (b : Bool) (n : Nat) (t : TypeId) (w : World) (a : K), P.underlying t = some d → (Instr.checkKey b (n + 1) t (val a)).run P w = .ok () w
  bits : ∀ n a, Instr.sameBits n (val a) (val a) = true

def KeyOk.int (k : IntKind) (k' : IntKind) : KeyOk (PV.int k) (.int k') where
  val := .int k
  rel w I a u := by simp [Rel]
  same a b := by
    simp only [Instr.sameNow, if_true]
    congr 1
  check P b n t w a h := by simp [Instr.checkKey, run_underlying h]
  bits n a := by cases n <;> simp [Instr.sameBits]
theorem bytes_beq (a b : ByteArray) : (a == b) = decide (a = b) := by
  rcases a with ⟨a⟩
  rcases b with ⟨b⟩
  show (a == b) = _
  by_cases h : a = b
  · subst h; simp
  · simp [h]
def KeyOk.str : KeyOk PV.str .string where
  val := .string
  rel w I a u := by simp [Rel]
  same a b := by
    simp only [Instr.sameNow, bytes_beq]
  check P b n t w a h := by simp [Instr.checkKey, run_underlying h]
  bits n a := by cases n <;> simp [Instr.sameBits, bytes_beq]

section
variable {K α : Type} [DecidableEq K]
def mget (n : K) : List (K × α) → Option α
  | [] => none
  | m :: r => if n = m.1 then some m.2 else mget n r
def mset (n : K) (a : α) : List (K × α) → List (K × α)
  | [] => [(n, a)]
  | m :: r => if n = m.1 then (n, a) :: r else m :: mset n a r
/-- Where a key lies. -/
def mix (n : K) : List (K × α) → Nat → Option Nat
  | [], _ => none
  | m :: r, i => if n = m.1 then some i else mix n r (i + 1)
end

def mapB {K α : Type} (enc : K → PV) (g : α → V) (ms : List (K × α)) : Blk := .map (ms.map fun m => .p (enc m.1)) (ms.map fun m => g m.2)
def mapP {K α : Type} (enc : K → PV) (g : α → PV) (ms : List (K × α)) : PV := .im (ms.map fun m => enc m.1) (ms.map fun m => g m.2)

section
variable {P : Program} {R : Option Nat} {N κ : Nat} {Q Q' : Post} {T T' T2 T3 : Tm} {H H' H2 H3 : List Blk} {o : Oper} {ops : Array Oper} {rest : List Oper}
variable {K α : Type} [DecidableEq K] {enc : K → PV} {g : α → V} {gp : α → PV} {d : TypeDesc}

theorem findNow_rel (hk : KeyOk enc d) {w : World} {I : Nat → Prop} {ρ : List Nat} (n : K) : ∀ (ms : List (K × α)) (es : List MapEntry) (i : Nat), RelVL P w I ρ (ms.map fun m => .p (enc m.1)) (es.map (·.key)) → RelVL P w I ρ (ms.map fun m => g m.2) (es.map (·.val)) →
    (mget n ms = none ∧ mix n ms i = none ∧ Instr.findNow d (hk.val n) es i = some none) ∨
    ∃ (a : α) (j : Nat) (e : MapEntry), mget n ms = some a ∧ mix n ms i = some (i + j) ∧ es[j]? = some e ∧ ms[j]? = some (n, a) ∧ e.key = hk.val n ∧ RelV P w I ρ (g a) e.val ∧ Instr.findNow d (hk.val n) es i = some (some (i + j, e.val))
  | [], es, i, h1, h2 => by
    have : es = [] := by simpa [RelVL] using h1
    subst this
    exact .inl ⟨rfl, rfl, rfl⟩
  | m :: ms, es, i, h1, h2 => by
    cases es with
    | nil => obtain ⟨u, us, h, _⟩ := h1; simp at h
    | cons e es =>
      obtain ⟨u, us, h, h3, h4⟩ := h1
      simp at h
      obtain ⟨rfl, rfl⟩ := h
      obtain ⟨u, us, h, h5, h6⟩ := h2
      simp at h
      obtain ⟨rfl, rfl⟩ := h
      have hkey : e.key = hk.val m.1 := (hk.rel w I m.1 e.key).1 h3
      simp only [mget, mix, Instr.findNow, hkey, hk.same]
      by_cases hn : n = m.1
      · subst hn
        refine .inr ⟨m.2, 0, e, by simp, by simp, rfl, rfl, hkey, h5, by simp⟩
      · simp only [if_neg hn, decide_eq_false hn]
        rcases findNow_rel hk n ms es (i + 1) h4 h6 with ⟨k1, k2, k3⟩ | ⟨a, j, e', k1, k2, k3, k4, k5, k6, k7⟩
        · exact .inl ⟨k1, k2, k3⟩
        · exact .inr ⟨a, j + 1, e', k1, by rw [k2]; congr 1; omega, by simpa using k3, by simpa using k4, k5, k6, by rw [k7]; congr 3; omega⟩

def mapI (P : Program) (t : TypeId) : Option (TypeDesc × PV) :=
  match P.underlying t with
  | some (.map k e) => match P.underlying k, zeroI P e with
    | some d, some z => some (d, z)
    | _, _ => none
  | _ => none
theorem mapI_some {t : TypeId} {z : PV} (h : mapI P t = some (d, z)) : ∃ k e, P.underlying t = some (.map k e) ∧ P.underlying k = some d ∧ zeroI P e = some z := by
  unfold mapI at h
  split at h
  · rename_i k e hu
    split at h
    · rename_i d' z' h1 h2
      simp at h
      obtain ⟨rfl, rfl⟩ := h
      exact ⟨k, e, hu, h1, h2⟩
    · cases h
  · cases h

/-- What a lookup hands back. -/
def lkup (z : PV) (ok : Bool) (v : Option V) : V :=
  if ok then tupOf [v.getD (.p z), .p (.bool v.isSome)] else v.getD (.p z)

theorem RelVL.two {w : World} {I : Nat → Prop} {ρ : List Nat} {x y : V} {u v : Value} (h : RelV P w I ρ x u) (k : RelV P w I ρ y v) : RelVL P w I ρ [x, y] (#[u, v] : Array Value).toList := ⟨u, [v], rfl, h, v, [], rfl, k, rfl⟩
theorem run_lookup' (hk : KeyOk enc d) {w : World} {I : Nat → Prop} {ρ : List Nat} {t : TypeId} {z : PV} {ms : List (K × α)} {es : Array MapEntry} {x : Value} {n : K} {ok : Bool} (ht : mapI P t = some (d, z)) (h1 : RelVL P w I ρ (ms.map fun m => .p (enc m.1)) (es.toList.map (·.key))) (h2 : RelVL P w I ρ (ms.map fun m => g m.2) (es.toList.map (·.val)))
    (hx : (x = .map none ∧ es = #[]) ∨ ∃ r clock, x = .map (some r) ∧ w.heap[r]? = some (.map es clock)) : ∃ u, (Instr.lookup t x (hk.val n) ok).run P w = .ok u w ∧ RelV P w I ρ (lkup z ok ((mget n ms).map g)) u := by
  obtain ⟨k, e, hu, hd, hz⟩ := mapI_some ht
  obtain ⟨zu, hz1, hz2⟩ := run_zero hz w
  have hchk := hk.check P es.isEmpty 9999 k w n hd
  have hstart : (Instr.lookup t x (hk.val n) ok).run P w = (do
      let (v, ok') ← match ← Instr.findKey k (hk.val n) es.toList with
        | some (_, v) => pure (v, true)
        | none => pure (← zeroValue e, false)
      pure (if ok then .tuple #[v, .bool ok'] else v) : Sem Value).run P w := by
    rcases hx with ⟨rfl, rfl⟩ | ⟨r, clock, rfl, hr⟩
    · simp [Instr.lookup, run_underlying hu] at hchk ⊢
      simp [hchk]
      rfl
    · simp [Instr.lookup, run_underlying hu, getObj, Sem.run_bind, Sem.run, hr, Result.andThen] at hchk ⊢
      simp [hchk]
      rfl
  rw [hstart]
  rcases findNow_rel hk n ms es.toList 0 h1 h2 with ⟨k1, k2, k3⟩ | ⟨a, j, e', k1, k2, k3, k4, k5, k6, k7⟩
  · refine ⟨if ok then .tuple #[zu, .bool false] else zu, ?_, ?_⟩
    · simp [Instr.findKey, run_underlying hd, k3, hz1]
    · rw [k1]
      cases ok with
      | false => exact hz2 I
      | true => exact RelV.tupOf (us := #[zu, .bool false]) (RelVL.two (x := .p z) (y := .p (.bool false)) (hz2 I) (by simp [RelV, Rel]))
  · refine ⟨if ok then .tuple #[e'.val, .bool true] else e'.val, ?_, ?_⟩
    · simp [Instr.findKey, run_underlying hd, k7]
    · rw [k1]
      cases ok with
      | false => exact k6
      | true => exact RelV.tupOf (us := #[e'.val, .bool true]) (RelVL.two (y := .p (.bool true)) k6 (by simp [RelV, Rel]))

theorem ev_key (hk : KeyOk enc d) {w : World} {I : Nat → Prop} {ρ : List Nat} {a : Act} (ht : TRel P w I ρ N T a.tmps) {x : Operand} {n : K} (h : ev T x = some (.p (enc n))) : a.eval x = hk.val n := (hk.rel w I n _).1 (ht.ev h)

theorem OpJ.lookupOwn (hk : KeyOk enc d) {x y : Operand} {t : TypeId} {z : PV} {ms : List (K × α)} {i : Nat} {n : K} {ok : Bool} (ho : o.op = .lookup t x y ok) (hx : ev T x = some (.map i)) (hH : H[i]? = some (mapB enc g ms)) (hy : ev T y = some (.p (enc n))) (ht : mapI P t = some (d, z)) : OpJ P N o T H (lkup z ok ((mget n ms).map g)) H :=
  OpJ.of_pure (by simp [ho]) fun w I ρ a hi hT => by
    obtain ⟨b, hb, hu⟩ := hT.ev hx
    obtain ⟨es, clock, h1, h2, h3, _⟩ := hi.rel i b _ hb hH
    obtain ⟨u, h4, h5⟩ := run_lookup' hk (n := n) (ok := ok) (x := .map (some b)) ht h2 h3 (.inr ⟨b, clock, rfl, h1⟩)
    refine ⟨u, ?_, h5⟩
    simp [execOp, ho, ev_key hk hT hy, hu, h4]
theorem OpJ.lookupIm (hk : KeyOk enc d) {x y : Operand} {t : TypeId} {z : PV} {ms : List (K × α)} {n : K} {ok : Bool} (ho : o.op = .lookup t x y ok) (hx : ev T x = some (.p (mapP enc gp ms))) (hy : ev T y = some (.p (enc n))) (ht : mapI P t = some (d, z)) : OpJ P N o T H (lkup z ok ((mget n ms).map fun a => .p (gp a))) H :=
  OpJ.of_pure (by simp [ho]) fun w I ρ a hi hT => by
    obtain ⟨b, es, clock, hb, hu, h1, h2, h3, _⟩ := hT.ev hx
    have h2' : RelVL P w I ρ (ms.map fun m => .p (enc m.1)) (es.toList.map (·.key)) := by
      have := RelVL.pure (P := P) (ρ := ρ).2 h2
      simpa [Function.comp_def] using this
    have h3' : RelVL P w I ρ (ms.map fun m => (fun a => V.p (gp a)) m.2) (es.toList.map (·.val)) := by
      have := RelVL.pure (P := P) (ρ := ρ).2 h3
      simpa [Function.comp_def] using this
    obtain ⟨u, h4, h5⟩ := run_lookup' hk (n := n) (ok := ok) (g := fun a => V.p (gp a)) (x := .map (some b)) ht h2' h3' (.inr ⟨b, clock, rfl, h1⟩)
    refine ⟨u, ?_, h5⟩
    simp [execOp, ho, ev_key hk hT hy, hu, h4]

theorem OpJ.makeMap {t : TypeId} (ho : o.op = .makeMap t none) : OpJ P N o T H (.map H.length) (H ++ [mapB enc g []]) :=
  OpJ.of_run (by simp [ho]) fun w I ρ a hi hT => by
    refine ⟨.map (some w.heap.size), _, _, _, .inl ?_, Ext.allocOwn hi (.map #[] 0), Inv.allocOwn hi _ ⟨#[], 0, heap_alloc_new w _, by simp [RelVL], by simp [RelVL], by simp [BornOk]⟩, ?_⟩
    · simp [execOp, ho, Instr.makeMap]
    · exact ⟨w.heap.size, by rw [← hi.len]; simp, rfl⟩

theorem map_mset_keys (n : K) (a : α) : ∀ ms : List (K × α), (mget n ms).isSome = true → (mset n a ms).map (·.1) = ms.map (·.1)
  | [], h => by simp [mget] at h
  | m :: r, h => by
    simp only [mget] at h
    simp only [mset]
    split
    · rename_i e; simp [e]
    · rename_i e; rw [if_neg e] at h; simp [map_mset_keys n a r h]
theorem mset_new (n : K) (a : α) : ∀ ms : List (K × α), mget n ms = none → mset n a ms = ms ++ [(n, a)]
  | [], h => rfl
  | m :: r, h => by
    simp only [mget] at h
    simp only [mset]
    split
    · rename_i e; rw [if_pos e] at h; cases h
    · rename_i e; rw [if_neg e] at h; simp [mset_new n a r h]
theorem mset_old (n : K) (a : α) : ∀ (ms : List (K × α)) (i j : Nat), mix n ms i = some (i + j) → mset n a ms = ms.set j (n, a)
  | [], i, j, h => by simp [mix] at h
  | m :: r, i, j, h => by
    simp only [mix] at h
    simp only [mset]
    split at h
    · rename_i e
      have : j = 0 := by simpa using h
      subst this
      simp [e]
    · rename_i e
      cases j with
      | zero =>
        have gen : ∀ (ms : List (K × α)) (i k : Nat), mix n ms i = some k → i ≤ k := by
          intro ms
          induction ms with
          | nil => intro i k h; simp [mix] at h
          | cons m ms ih =>
            intro i k h
            simp only [mix] at h
            split at h
            · simp at h; omega
            · have := ih _ _ h; omega
        have := gen r (i + 1) (i + 0) h
        omega
      | succ j =>
        rw [if_neg e, mset_old n a r (i + 1) j (by rw [h]; congr 1; omega)]
        rfl

theorem run_keyThatStays {w : World} {u : Value} (h : Instr.sameBits 10000 u u = true) : (Instr.keyThatStays u u).run P w = .ok u w := by
  simp [Instr.keyThatStays, h]

/-- Own block i holds another map. -/
theorem map_turn {w : World} {I : Nat → Prop} {ρ : List Nat} {i b : Nat} {ms ms' : List (K × α)} {es es' : Array MapEntry} {clock clock' : Nat} (hi : Inv P w I ρ H) (hb : ρ[i]? = some b) (hH : H[i]? = some (mapB enc g ms)) (hw : w.heap[b]? = some (.map es clock))
    (h1 : RelVL P w I ρ (ms'.map fun m => .p (enc m.1)) (es'.toList.map (·.key))) (h2 : RelVL P w I ρ (ms'.map fun m => g m.2) (es'.toList.map (·.val))) (h3 : BornOk es' clock') :
    Ext w I ρ (w.putObj b (.map es' clock')) I ρ ∧ Inv P (w.putObj b (.map es' clock')) I ρ (H.set i (mapB enc g ms')) := by
  have hlt : b < w.heap.size := (Array.getElem?_eq_some_iff.1 hw).1
  have hother : ∀ k, k ≠ b → (w.putObj b (.map es' clock')).heap[k]? = w.heap[k]? := fun k hk => World.putObj_heap_other hk
  have hE : Ext w I ρ (w.putObj b (.map es' clock')) I ρ := Ext.write hi hb hH rfl rfl rfl rfl (by simp) hother (fun s hs => by simp [World.shape?, hw] at hs)
  exact ⟨hE, Inv.write hi hb hH rfl hE (by simp) hother ⟨es', clock', World.putObj_heap_same hlt, RelVL.ext hE h1, RelVL.ext hE h2, h3⟩⟩

theorem run_mapUpdate' (hk : KeyOk enc d) {w : World} {I : Nat → Prop} {ρ : List Nat} {t : TypeId} {z : PV} {ms : List (K × α)} {i b : Nat} {n : K} {x : α} {u : Value} (hi : Inv P w I ρ H) (hb : ρ[i]? = some b) (hH : H[i]? = some (mapB enc g ms)) (ht : mapI P t = some (d, z)) (hu : RelV P w I ρ (g x) u) :
    ∃ w', (Instr.mapUpdate t (.map (some b)) (hk.val n) u).run P w = .ok () w' ∧ Ext w I ρ w' I ρ ∧ Inv P w' I ρ (H.set i (mapB enc g (mset n x ms))) := by
  obtain ⟨k, e, hut, hd, _⟩ := mapI_some ht
  obtain ⟨es, clock, h1, h2, h3, h4⟩ := hi.rel i b _ hb hH
  have hchk := hk.check P false 9999 k w n hd
  simp at hchk
  have hset : ∀ ob : Obj, (setObj b ob).run P w = .ok () (w.putObj b ob) := fun ob => by simp [setObj, Sem.run, h1, World.putObj]
  rcases findNow_rel hk n ms es.toList 0 h2 h3 with ⟨k1, k2, k3⟩ | ⟨a, j, e', k1, k2, k3, k4, k5, k6, k7⟩
  · have hT := map_turn (ms' := mset n x ms) (es' := es.push { key := hk.val n, val := u, born := clock }) (clock' := clock + 1) hi hb hH h1 (by
      rw [mset_new n x ms k1]
      simp only [List.map_append, List.map_cons, List.map_nil, Array.toList_push]
      exact RelVL.append h2 ⟨_, _, rfl, (hk.rel w I n _).2 rfl, by simp [RelVL]⟩) (by
      rw [mset_new n x ms k1]
      simp only [List.map_append, List.map_cons, List.map_nil, Array.toList_push]
      exact RelVL.append h3 ⟨_, _, rfl, hu, by simp [RelVL]⟩) (by
      obtain ⟨h5, h6⟩ := h4
      refine ⟨?_, fun e he => ?_⟩
      · simp only [Array.toList_push, List.map_append, List.map_cons, List.map_nil]
        rw [List.nodup_append]
        refine ⟨h5, by simp, fun a ha b hb => ?_⟩
        simp at hb
        subst hb
        rw [List.mem_map] at ha
        obtain ⟨e, he, rfl⟩ := ha
        have := h6 e he
        omega
      · simp only [Array.toList_push, List.mem_append, List.mem_singleton] at he
        rcases he with he | rfl
        · have := h6 e he; omega
        · simp)
    refine ⟨_, ?_, hT⟩
    simp [Instr.mapUpdate, run_underlying hut, getObj, Sem.run_bind, Sem.run, h1, Result.andThen, hchk, Instr.findKey, run_underlying hd, k3, hset]
  · simp only [Nat.zero_add] at k2 k7
    have hje : es[j]? = some e' := by simpa using k3
    have hjl : j < es.size := (Array.getElem?_eq_some_iff.1 hje).1
    have hstay := run_keyThatStays (P := P) (w := w) (hk.bits 10000 n)
    have hT := map_turn (ms' := mset n x ms) (es' := es.modify j fun e => { e with key := hk.val n, val := u }) (clock' := clock) hi hb hH h1 (by
      rw [mset_old n x ms 0 j (by simpa using k2), List.map_set]
      have : (es.modify j fun e => { e with key := hk.val n, val := u }).toList.map (·.key) = (es.toList.map (·.key)).set j (hk.val n) := by
        apply List.ext_getElem?
        intro i
        simp only [Array.toList_modify, List.getElem?_map, List.getElem?_set, List.getElem?_modify]
        by_cases hij : j = i
        · subst hij
          simp [hjl]
        · simp [hij]
      rw [this]
      exact RelVL.set (v := .p (enc n)) ((hk.rel w I n _).2 rfl) j h2) (by
      rw [mset_old n x ms 0 j (by simpa using k2), List.map_set]
      have : (es.modify j fun e => { e with key := hk.val n, val := u }).toList.map (·.val) = (es.toList.map (·.val)).set j u := by
        apply List.ext_getElem?
        intro i
        simp only [Array.toList_modify, List.getElem?_map, List.getElem?_set, List.getElem?_modify]
        by_cases hij : j = i
        · subst hij
          simp [hjl]
        · simp [hij]
      rw [this]
      exact RelVL.set hu j h3) (by
      obtain ⟨h5, h6⟩ := h4
      have : (es.modify j fun e => { e with key := hk.val n, val := u }).toList.map (·.born) = es.toList.map (·.born) := by
        apply List.ext_getElem?
        intro i
        simp only [Array.toList_modify, List.getElem?_map, List.getElem?_modify]
        by_cases hij : j = i
        · subst hij
          simp [hjl]
        · simp [hij]
      refine ⟨by rw [this]; exact h5, fun e he => ?_⟩
      have hm : e.born ∈ es.toList.map (·.born) := by rw [← this]; exact List.mem_map_of_mem he
      rw [List.mem_map] at hm
      obtain ⟨e2, he2, h7⟩ := hm
      rw [← h7]
      exact h6 e2 he2)
    refine ⟨_, ?_, hT⟩
    have hkey : ((es[j]?).map (·.key)).getD (hk.val n) = hk.val n := by rw [hje]; simp [k5]
    simp [Instr.mapUpdate, run_underlying hut, getObj, Sem.run_bind, Sem.run, h1, Result.andThen, hchk, Instr.findKey, run_underlying hd, k7, hkey, hstay, hset]

theorem OpJ.mapUpdate (hk : KeyOk enc d) {x y v : Operand} {t : TypeId} {z : PV} {ms : List (K × α)} {i : Nat} {n : K} {c : α} (ho : o.op = .mapUpdate t x y v ∨ o.op = .insert t x y v) (hx : ev T x = some (.map i)) (hH : H[i]? = some (mapB enc g ms)) (hy : ev T y = some (.p (enc n))) (hv : ev T v = some (g c)) (ht : mapI P t = some (d, z)) :
    OpJ P N o T H .top (H.set i (mapB enc g (mset n c ms))) :=
  OpJ.of_run (by rcases ho with ho | ho <;> simp [ho]) fun w I ρ a hi hT => by
    obtain ⟨b, hb, hu⟩ := hT.ev hx
    obtain ⟨w', h1, h2, h3⟩ := run_mapUpdate' hk (n := n) hi hb hH ht (hT.ev hv)
    refine ⟨undef, w', I, ρ, .inr ⟨?_, rfl⟩, h2, h3, trivial⟩
    rcases ho with ho | ho <;> simp [execOp, ho, ev_key hk hT hy, hu, h1]

/-! ### Ranges over maps -/
def iterB {K α : Type} (enc : K → PV) (gp : α → PV) (ms : List (K × α)) (last : Option (K × α)) : Blk := .mapIter (ms.map fun m => enc m.1) (ms.map fun m => gp m.2) (last.map fun m => (enc m.1, gp m.2))

theorem OpJ.rangeMap {x : Operand} {t : TypeId} {z : PV} {ms : List (K × α)} (ho : o.op = .range t x) (hx : ev T x = some (.p (mapP enc gp ms))) (ht : mapI P t = some (d, z)) : OpJ P N o T H (.ptr H.length 0) (H ++ [iterB enc gp ms none]) :=
  OpJ.of_run (by simp [ho]) fun w I ρ a hi hT => by
    obtain ⟨k, e, hu, _, _⟩ := mapI_some ht
    obtain ⟨b, es, clock, hb, hx', h1, h2, h3, h4⟩ := hT.ev hx
    have hE := Ext.allocOwn hi (.mapIter (some b) clock #[] clock)
    refine ⟨.pointer (some ⟨w.heap.size, 0, none⟩), _, _, _, .inl ?_, hE, Inv.allocOwn hi _ ?_, ⟨w.heap.size, by rw [← hi.len]; simp, rfl⟩⟩
    · simp [execOp, ho, Instr.range, run_underlying hu, hx', getObj, Sem.run_bind, Sem.run, h1, Result.andThen, newObj]
    · refine .inr ⟨b, es, clock, #[], heap_alloc_new w _, hb, ?_, h4, ?_, ?_, by simp⟩
      · exact (heap_alloc_old w _ (hi.ib b hb)).trans h1
      · rw [show es.toList.filter (fun e => !(#[] : Array Nat).contains e.born) = es.toList by rw [List.filter_eq_self]; simp]
        exact RelL.mono (fun _ h => hE.w.imm _ h) hE.w.immKeep _ _ h2
      · rw [show es.toList.filter (fun e => !(#[] : Array Nat).contains e.born) = es.toList by rw [List.filter_eq_self]; simp]
        exact RelL.mono (fun _ h => hE.w.imm _ h) hE.w.immKeep _ _ h3

theorem map_eraseIdx {α β : Type} (f : α → β) : ∀ (l : List α) (i : Nat), (l.eraseIdx i).map f = (l.map f).eraseIdx i
  | [], i => by simp
  | x :: l, 0 => by simp
  | x :: l, i + 1 => by simp [map_eraseIdx f l i]
theorem RelL.erase {w : World} {I : Nat → Prop} : ∀ {xs : List PV} {us : List Value} (i : Nat), RelL w I xs us → RelL w I (xs.eraseIdx i) (us.eraseIdx i)
  | [], us, i, h => by simp [RelL] at h; subst h; simp [RelL]
  | x :: xs, us, i, h => by
    obtain ⟨u, us', rfl, h1, h2⟩ := h
    cases i with
    | zero => exact h2
    | succ i => exact ⟨u, us'.eraseIdx i, by simp, h1, RelL.erase i h2⟩
theorem RelL.get {w : World} {I : Nat → Prop} : ∀ {xs : List PV} {us : List Value} {i : Nat} {u : Value}, RelL w I xs us → us[i]? = some u → ∃ x, xs[i]? = some x ∧ Rel w I x u
  | [], us, i, u, h, hu => by simp [RelL] at h; subst h; simp at hu
  | x :: xs, us, i, u, h, hu => by
    obtain ⟨u', us', rfl, h1, h2⟩ := h
    cases i with
    | zero => simp at hu; subst hu; exact ⟨x, rfl, h1⟩
    | succ i =>
      obtain ⟨y, k1, k2⟩ := RelL.get (i := i) h2 (by simpa using hu)
      exact ⟨y, by simpa using k1, k2⟩

theorem filter_push (es : List MapEntry) (seen : Array Nat) (e : MapEntry) (hn : (es.map (·.born)).Nodup) : ∀ i : Nat, (es.filter fun x => !seen.contains x.born)[i]? = some e →
    es.filter (fun x => !(seen.push e.born).contains x.born) = (es.filter fun x => !seen.contains x.born).eraseIdx i := by
  induction es with
  | nil => intro i h; simp at h
  | cons x es ih =>
    intro i h
    simp only [List.map_cons, List.nodup_cons] at hn
    by_cases hs : seen.contains x.born = true
    · have h1 : (x :: es).filter (fun x => !seen.contains x.born) = es.filter fun x => !seen.contains x.born := by rw [List.filter_cons, hs]; rfl
      rw [h1] at h ⊢
      rw [← ih hn.2 i h]
      have h2 : (seen.push e.born).contains x.born = true := by
        simp only [Array.contains_eq_mem, Array.mem_push, decide_eq_true_eq] at hs ⊢
        exact .inl hs
      simp only [List.filter_cons, h2, Bool.not_true, Bool.false_eq_true, if_false]
    · have hs' : seen.contains x.born = false := by simpa using hs
      have h1 : (x :: es).filter (fun x => !seen.contains x.born) = x :: es.filter fun x => !seen.contains x.born := by rw [List.filter_cons, hs']; rfl
      rw [h1] at h ⊢
      cases i with
      | zero =>
        simp at h
        subst h
        have h2 : (seen.push x.born).contains x.born = true := by simp [Array.contains_eq_mem]
        simp only [List.filter_cons, h2, Bool.not_true, Bool.false_eq_true, if_false, List.eraseIdx_zero, List.tail_cons]
        apply List.filter_congr
        intro y hy
        have : y.born ≠ x.born := fun h => hn.1 (by rw [← h]; exact List.mem_map_of_mem hy)
        congr 1
        simp only [Array.contains_eq_mem, Array.mem_push, this, or_false]
      | succ i =>
        have h' : (es.filter fun x => !seen.contains x.born)[i]? = some e := by simpa using h
        have hne : x.born ≠ e.born := fun hh => by
          have : e ∈ es := (List.mem_filter.1 (List.mem_of_getElem? h')).1
          exact hn.1 (by rw [hh]; exact List.mem_map_of_mem this)
        have h2 : (seen.push e.born).contains x.born = false := by
          simp only [Array.contains_eq_mem, Array.mem_push, decide_eq_false_iff_not, hne, or_false] at hs' ⊢
          simpa using hs'
        simp only [List.filter_cons, h2, Bool.not_false, if_true, List.eraseIdx_cons_succ, ih hn.2 i h']

/-- 'next' over a map: nothing is left, or any of what is left. -/
theorem AList.nextMap (dd : Nat) {it : Operand} {i : Nat} {ms : List (K × α)} {last : Option (K × α)} (ho : o.op = .next it false) (hd : o.dst = some dd) (hN : dstOk N (some dd) = true) (hg : o.guard = none) (hx : ev T it = some (.ptr i 0)) (hH : H[i]? = some (iterB enc gp ms last))
    (over : ms = [] → AList P R N κ ops rest Q ((dd, .p (.tuple [.bool false])) :: T) H)
    (next : ∀ (j : Nat) (m : K × α), ms[j]? = some m → AList P R N κ ops rest Q ((dd, .p (.tuple [.bool true, enc m.1, gp m.2])) :: T) (H.set i (iterB enc gp (ms.eraseIdx j) (some m)))) : AList P R N κ ops (o :: rest) Q T H := by
  intro QX B w I ρ a hi ht hm hq
  refine wpListIn_plain hg fun Kx hK => ⟨about_wide, ?_⟩
  rw [semAt_plain _ _ _ (by simp [ho])]
  obtain ⟨b, hb, hu⟩ := ht.ev hx
  have hrel := hi.rel i b _ hb hH
  have quiet : ∀ u, RelV P w I ρ (.p (.tuple [.bool false])) u → ms = [] → Kx (a.put o.dst u) w := fun u hv h0 => by
    refine hK _ _ ?_
    have := ht.put (a := a) (dst := o.dst) (by rw [hd]; exact hN) hv
    rw [hd] at this ⊢
    exact over h0 QX B w I ρ _ hi this hm.put hq
  have hover : RelV P w I ρ (.p (.tuple [.bool false])) (.tuple #[.bool false]) := ⟨#[.bool false], rfl, .bool false, [], rfl, rfl, rfl⟩
  rcases hrel with ⟨h1, h2, h3, h4⟩ | ⟨r, es, clock, seen, h1, h2, h3, h4, h5, h6, h7⟩
  · have e : (execOp a.eval o).run P w = .ok (.value (.tuple #[.bool false])) w := by
      simp [execOp, ho, hu, Instr.next, getObj, Sem.run_bind, Sem.run, h4, Result.andThen]
    rw [e]
    exact quiet _ hover (by simpa using h1)
  · rcases run_next_at (P := P) w o.type b r clock clock seen es clock h1 h3 (fun x hx => h4.2 x hx) (Nat.le_refl _) with ⟨h8, h9⟩ | ⟨e, he, w1, hw1, h9⟩
    · have e : (execOp a.eval o).run P w = .ok (.value (.tuple #[.bool false])) w := by
        simp [execOp, ho, hu, h9]
      rw [e]
      refine quiet _ hover ?_
      have h0 : es.toList.filter (fun e => !seen.contains e.born) = [] := by
        have h10 : (es.filter fun e => !seen.contains e.born).toList.length = 0 := by simpa [leftOf] using h8
        rw [Array.toList_filter] at h10
        exact List.eq_nil_of_length_eq_zero h10
      rw [h0] at h5
      have := RelL.length h5
      simp at this
      exact List.eq_nil_of_length_eq_zero this.symm
    · have e0 : (execOp a.eval o).run P w = .ok (.value (.tuple #[.bool true, e.key, e.val])) (ChangeMaps.setBlock w1 b (.mapIter (some r) clock (seen.push e.born) clock)) := by
        simp [execOp, ho, hu, h9]
      rw [e0]
      have hel : e ∈ es.toList.filter fun x => !seen.contains x.born := by
        have := he
        simp only [leftOf, Array.toList_filter] at this
        exact this
      obtain ⟨j, hj⟩ := List.getElem?_of_mem hel
      have hes : e ∈ es.toList := (List.mem_filter.1 hel).1
      have hk5 : ∃ x, (ms.map fun m => enc m.1)[j]? = some x ∧ Rel w I x e.key := RelL.get h5 (by rw [List.getElem?_map, hj]; rfl)
      have hv6 : ∃ x, (ms.map fun m => gp m.2)[j]? = some x ∧ Rel w I x e.val := RelL.get h6 (by rw [List.getElem?_map, hj]; rfl)
      obtain ⟨m, hm1, hmk, hmv⟩ : ∃ m, ms[j]? = some m ∧ Rel w I (enc m.1) e.key ∧ Rel w I (gp m.2) e.val := by
        obtain ⟨x, k1, k2⟩ := hk5
        obtain ⟨y, k3, k4⟩ := hv6
        rw [List.getElem?_map, Option.map_eq_some_iff] at k1 k3
        obtain ⟨m, k5, rfl⟩ := k1
        obtain ⟨m', k6, rfl⟩ := k3
        rw [k5] at k6; cases k6
        exact ⟨m, k5, k2, k4⟩
      have hE1 : Ext w I ρ w1 I ρ := by
        rcases hw1 with rfl | rfl
        · exact Ext.refl _ _ _
        · exact Ext.drew
      have hi1 : Inv P w1 I ρ H := by
        rcases hw1 with rfl | rfl
        · exact hi
        · exact hi.drew
      have hh1 : w1.heap = w.heap := by rcases hw1 with rfl | rfl <;> rfl
      have hlt : b < w1.heap.size := by rw [hh1]; exact (Array.getElem?_eq_some_iff.1 h1).1
      have hsame : (ChangeMaps.setBlock w1 b (.mapIter (some r) clock (seen.push e.born) clock)).heap[b]? = some (.mapIter (some r) clock (seen.push e.born) clock) := by simp [ChangeMaps.setBlock, hlt]
      have hother : ∀ k, k ≠ b → (ChangeMaps.setBlock w1 b (.mapIter (some r) clock (seen.push e.born) clock)).heap[k]? = w1.heap[k]? := fun k hk => by
        simp [ChangeMaps.setBlock, Array.getElem?_setIfInBounds_ne (Ne.symm hk)]
      have hE2 : Ext w1 I ρ (ChangeMaps.setBlock w1 b (.mapIter (some r) clock (seen.push e.born) clock)) I ρ :=
        Ext.write hi1 hb hH rfl rfl rfl rfl (by simp [ChangeMaps.setBlock]) hother (fun s hs => by simp [World.shape?, hh1, h1] at hs)
      have hrb : r ≠ b := fun h => by subst h; rw [h3] at h1; cases h1
      have hE := hE1.trans hE2
      have hi2 : Inv P (ChangeMaps.setBlock w1 b (.mapIter (some r) clock (seen.push e.born) clock)) I ρ (H.set i (iterB enc gp (ms.eraseIdx j) (some m))) := by
        refine Inv.write hi1 hb hH rfl hE2 (by simp [ChangeMaps.setBlock]) hother (.inr ⟨r, es, clock, seen.push e.born, hsame, h2, (hother r hrb).trans (by rw [hh1]; exact h3), h4, ?_, ?_, ?_⟩)
        · rw [filter_push _ _ _ h4.1 j hj, map_eraseIdx, map_eraseIdx]
          exact RelL.mono (fun _ h => h) hE.w.immKeep _ _ (RelL.erase j h5)
        · rw [filter_push _ _ _ h4.1 j hj, map_eraseIdx, map_eraseIdx]
          exact RelL.mono (fun _ h => h) hE.w.immKeep _ _ (RelL.erase j h6)
        · intro k v hkv
          simp at hkv
          obtain ⟨rfl, rfl⟩ := hkv
          exact ⟨e, seen, hes, rfl, Rel.ext hE hmk, Rel.ext hE hmv⟩
      have hv : RelV P (ChangeMaps.setBlock w1 b (.mapIter (some r) clock (seen.push e.born) clock)) I ρ (.p (.tuple [.bool true, enc m.1, gp m.2])) (.tuple #[.bool true, e.key, e.val]) :=
        ⟨_, rfl, .bool true, _, rfl, rfl, e.key, _, rfl, Rel.ext hE hmk, e.val, _, rfl, Rel.ext hE hmv, rfl⟩
      refine hK _ _ ?_
      have hput := (ht.ext hE).put (a := a) (dst := o.dst) (by rw [hd]; exact hN) hv
      rw [hd] at hput ⊢
      exact next j m hm1 QX B _ I ρ _ hi2 hput (hm.ext hE).put fun e' a2 w2 q => hq e' a2 w2 (QC.ext hE.w q)

theorem OpJ.entry {it : Operand} {i : Nat} {ms : List (K × α)} {m : K × α} (ho : o.op = .entry it) (hx : ev T it = some (.ptr i 0)) (hH : H[i]? = some (iterB enc gp ms (some m))) : OpJ P N o T H (.p (.tuple [enc m.1, gp m.2])) H :=
  OpJ.of_pure (by simp [ho]) fun w I ρ a hi hT => by
    obtain ⟨b, hb, hu⟩ := hT.ev hx
    rcases hi.rel i b _ hb hH with ⟨h1, h2, h3, h4⟩ | ⟨r, es, clock, seen, h1, h2, h3, h4, h5, h6, h7⟩
    · cases h3
    · obtain ⟨e, pre, k1, rfl, k3, k4⟩ := h7 _ _ rfl
      have := run_entry_at (P := P) w b r clock pre es clock e h1 h3 k1 h4.1
      refine ⟨.tuple #[e.key, e.val], by simp [execOp, ho, hu, this], ⟨_, rfl, e.key, _, rfl, k3, e.val, _, rfl, k4, rfl⟩⟩

/-! ### Maps that nobody will write any more -/
mutual
def frmV (i : Nat) (x : PV) : V → V
  | .map j => if j = i then .p x else .map j
  | .agg cs => aggOf (frmL i x cs)
  | .tuple cs => tupOf (frmL i x cs)
  | v => v
def frmL (i : Nat) (x : PV) : List V → List V
  | [] => []
  | v :: vs => frmV i x v :: frmL i x vs
end
def frmT (i : Nat) (x : PV) : Tm → Tm
  | [] => []
  | (s, v) :: r => (s, frmV i x v) :: frmT i x r
theorem lk_frmT {i : Nat} {x : PV} : ∀ (T : Tm) (s : Nat), lk (frmT i x T) s = (lk T s).map (frmV i x)
  | [], s => rfl
  | (a, v) :: r, s => by
    simp only [frmT, lk]
    cases Nat.beq a s with
    | true => rfl
    | false => exact lk_frmT r s
mutual
theorem frmV_rel {w : World} {I : Nat → Prop} {ρ : List Nat} {i b : Nat} {x : PV} (hρ : ρ[i]? = some b) (hx : Rel w I x (.map (some b))) : ∀ (v : V) (u : Value), RelV P w I ρ v u → RelV P w I ρ (frmV i x v) u
  | .map j, u, h => by
    simp only [frmV]
    split
    · rename_i e; subst e
      obtain ⟨b', hb, hu⟩ := h
      rw [hρ] at hb; cases hb
      rw [hu]; exact hx
    · exact h
  | .agg cs, u, h => by
    obtain ⟨us, rfl, h1⟩ := h
    exact RelV.aggOf (frmL_rel hρ hx cs _ h1)
  | .tuple cs, u, h => by
    obtain ⟨us, rfl, h1⟩ := h
    exact RelV.tupOf (frmL_rel hρ hx cs _ h1)
  | .p _, u, h => h
  | .ptr _ _, u, h => h
  | .row _ _, u, h => h
  | .sl _ _ _, u, h => h
  | .func _ _ _, u, h => h
  | .iface _ _, u, h => h
  | .opt _ _, u, h => h
  | .top, u, h => h
theorem frmL_rel {w : World} {I : Nat → Prop} {ρ : List Nat} {i b : Nat} {x : PV} (hρ : ρ[i]? = some b) (hx : Rel w I x (.map (some b))) : ∀ (vs : List V) (us : List Value), RelVL P w I ρ vs us → RelVL P w I ρ (frmL i x vs) us
  | [], us, h => h
  | v :: vs, us, h => by
    obtain ⟨u, us', hu, h1, h2⟩ := h
    exact ⟨u, us', hu, frmV_rel hρ hx v u h1, frmL_rel hρ hx vs us' h2⟩
end

/-- Own map i becomes immutable. -/
theorem To.freezeMap (i : Nat) {ms : List (K × α)} (hH : H[i]? = some (mapB enc (fun a => .p (gp a)) ms)) : To P κ N T H (frmT i (mapP enc gp ms) T) (H.set i .dead) := fun w I ρ tmps hi ht => by
  have hlt : i < ρ.length := by rw [hi.len]; exact (List.getElem?_eq_some_iff.1 hH).1
  have hρ : ρ[i]? = some ρ[i] := List.getElem?_eq_getElem hlt
  obtain ⟨es, clock, h1, h2, h3, h4⟩ := hi.rel i _ _ hρ hH
  have hE := Ext.freeze hi hρ hH rfl
  refine ⟨_, ρ, hE.w, Inv.freeze hi hρ hH rfl, ⟨ht.size, fun s v hv => ?_⟩, fun _ h _ => h⟩
  rw [lk_frmT, Option.map_eq_some_iff] at hv
  obtain ⟨v0, h5, rfl⟩ := hv
  refine frmV_rel hρ ?_ v0 _ ((ht.at_ s v0 h5).ext hE)
  have h2' : RelVL P w I ρ ((ms.map fun m => enc m.1).map .p) (es.toList.map (·.key)) := by simpa [Function.comp_def] using h2
  have h3' : RelVL P w I ρ ((ms.map fun m => gp m.2).map .p) (es.toList.map (·.val)) := by simpa [Function.comp_def] using h3
  exact ⟨ρ[i], es, clock, .inr rfl, rfl, h1, RelL.mono (fun _ h => hE.w.imm _ h) hE.w.immKeep _ _ (RelVL.pure.1 h2'), RelL.mono (fun _ h => hE.w.imm _ h) hE.w.immKeep _ _ (RelVL.pure.1 h3'), h4⟩
end
end Go.AF
