/-
  Slices that grow from nothing; equality of structs and arrays. No condition; generic over any program.
-/
import Derived.Test.YtmcejcidbekpkaaAf13
import Derived.Laws.StructEq
import Derived.ChangeKeysEq
set_option linter.unusedVariables false
set_option linter.unusedSimpArgs false
set_option linter.unnecessarySimpa false
set_option linter.unusedSectionVars false
namespace Go.AF
section
variable {P : Program} {R : Option Nat} {N κ : Nat} {Q Q' : Post} {T T' T2 T3 : Tm} {H H' H2 H3 : List Blk} {o : Oper} {ops : Array Oper} {rest : List Oper}

/-- Appending to nil. -/
theorem OpJ.appendNil {x y : Operand} {t t2 e : TypeId} {z : List PV} {n by_ : Nat} {ys : List V} {yv : V} (ho : o.op = .call { callee := .builtin .append, args := #[x, y], argTypes := #[t, t2] }) (hx : ev T x = some (.p .nilSlice)) (hy : ev T y = some yv) (hs : slI P t = some (e, z)) (ht2 : isSl P t2 = true)
    (hsrc : asrc H z.length yv = some (ys, n)) (hn : 0 < n) (hone : ys.all oneV = true) (hby : byI P e = some by_) (hb0 : 0 < by_) (hb : (2 * n + 192) * by_ ≤ 281474976710656) :
    OpJ P N o T H (.row H.length n) (H ++ [.row ys e]) :=
  OpJ.of_run (by simp [ho]) fun w I ρ a hi hT => by
    obtain ⟨hu, ⟨bb, htk⟩, hz0, hz⟩ := slI_some hs
    have hxu : a.eval x = .slice none 0 0 := hT.ev hx
    obtain ⟨us, ⟨ad, ycap, hyu⟩, hfc, _, hrel, hlen⟩ := run_asrc hi (hT.ev hy) hsrc
    have hce : P.cellsOf e = z.length := by
      obtain ⟨d, inf, _, h5, _, h6⟩ := tyI_some htk
      simp [Program.cellsOf, h5, h6]
    have hinfo : ∃ inf, P.info? e = some inf ∧ inf.bytes = by_ := by
      unfold byI at hby
      cases h : P.info? e with
      | none => rw [h] at hby; cases hby
      | some inf => rw [h] at hby; simp at hby; exact ⟨inf, rfl, hby⟩
    obtain ⟨inf, hinf, hbyt⟩ := hinfo
    have hd2 : ∃ d2, P.underlying t2 = some (.slice d2) := by
      cases h : P.underlying t2 with
      | none => simp [isSl, h] at ht2
      | some d => cases d <;> simp [isSl, h] at ht2; exact ⟨_, rfl⟩
    obtain ⟨d2, hd2⟩ := hd2
    have hyl := RelVL.length hrel
    have hcut : ∀ q, 0 + n ≤ (Question.appendCap (0 + n) 0 e).cut q := fun q => Nat.le_add_right _ _
    obtain ⟨uz, hz1, hz2⟩ := hz w.drew
    have hzl := RelL.length (hz2 I)
    have hzsz : uz.cells.size = z.length := by simpa using hzl
    have hnext := nextcap_le (need := 0 + n) (cap := 0) (by omega)
    have hsmall : ¬ (Builtin.nextslicecap (0 + n) 0 * by_ > 2 ^ 48) := by
      have h1 := Nat.mul_le_mul_right by_ hnext
      have h2 : (2 : Nat) ^ 48 = 281474976710656 := by decide
      have h3 : 2 * (0 + n) + 192 = 2 * n + 192 := by omega
      rw [h3] at h1
      omega
    let newCap := (Question.appendCap (0 + n) 0 e).cut (w.tape w.drawn (.appendCap (0 + n) 0 e))
    have hnc : 0 + n ≤ newCap := hcut _
    have hnew := hfc w.drew (fun _ _ => rfl)
    let arr2 : Array Value := #[] ++ us.toArray ++ Builtin.zeroCells uz.cells (newCap - (0 + n))
    have hE1 : Ext w I ρ w.drew I ρ := Ext.drew
    have hi1 : Inv P w.drew I ρ H := hi.drew
    have hE2 : Ext w.drew I ρ (w.drew.alloc (.cells arr2 e)) I (ρ ++ [w.drew.heap.size]) := Ext.allocOwn hi1 _
    have hi2 : Inv P (w.drew.alloc (.cells arr2 e)) I (ρ ++ [w.drew.heap.size]) (H ++ [.row ys e]) := by
      refine Inv.allocOwn hi1 _ ⟨arr2, heap_alloc_new _ _, ?_, RelVL.ext hE2 (RelVL.ext hE1 ?_)⟩
      · simp only [arr2, Array.size_append]
        rw [← hyl]
        simp
      · have e1 : arr2.toList.take ys.length = us := by
          simp only [arr2, Array.toList_append]
          rw [List.nil_append, ← hyl, List.take_append_of_le_length (Nat.le_refl _)]
          exact List.take_length
        rw [e1]
        exact hrel
    refine ⟨.slice (some ⟨w.heap.size, 0, none⟩) (0 + n) newCap, w.drew.alloc (.cells arr2 e), I, ρ ++ [w.drew.heap.size], .inl ?_, hE1.trans hE2, hi2, w.heap.size, e, newCap, by rw [← hi.len]; simp, by rw [Nat.zero_add], ?_, by omega⟩
    · rw [hyu] at hnew
      have hneed : ((0 + n : Nat) : Int) ≤ IntKind.i64.max := by
        have h1 := Nat.le_mul_of_pos_right (2 * n + 192) hb0
        have h2 : IntKind.i64.max = 9223372036854775807 := by decide
        rw [h2]
        omega
      have hold : (Builtin.firstCells z.length 0 (.slice none 0 0)).run P w.drew = .ok #[] w.drew := by simp [Builtin.firstCells]
      have := run_append_grow (P := P) (w := w) (t := t) (t2 := t2) (ty := o.type) hu htk hd2 hinf (by rw [hbyt]; exact hsmall) hneed (by omega) hold hnew hz1
      simp only [execOp, ho, resolve, invoke, builtin, Sem.run_bind]
      simp only [Sem.run_pure, Result.andThen, List.map_toArray, List.map_cons, List.map_nil, hxu, hyu, Sem.run_bind, this]
      rfl
    · simp only [World.shape?]
      show (match (w.drew.alloc (.cells arr2 e)).heap[w.drew.heap.size]? with | some (.cells c elem _) => some (elem, c.size) | _ => none) = _
      rw [heap_alloc_new]
      simp only [arr2, Array.size_append, hce, Builtin.zeroCells]
      simp
      rw [hlen, hzsz, ← Nat.add_mul]
      congr 1
      omega

/-- A slice that is nil as long as it is empty. -/
def accV (i : Nat) : Nat → V
  | 0 => .p .nilSlice
  | n + 1 => .row i (n + 1)
def accB (cs : List V) (e : TypeId) : Nat → Blk
  | 0 => .dead
  | n + 1 => .row cs e
theorem accV_pos {i n : Nat} (h : 0 < n) : accV i n = .row i n := by
  cases n with
  | zero => omega
  | succ n => rfl
theorem accB_pos {cs : List V} {e : TypeId} {n : Nat} (h : 0 < n) : accB cs e n = .row cs e := by
  cases n with
  | zero => omega
  | succ n => rfl

theorem OpJ.appendAcc {x y : Operand} {t t2 e : TypeId} {z : List PV} {i len n by_ : Nat} {cs ys : List V} {yv : V} (ho : o.op = .call { callee := .builtin .append, args := #[x, y], argTypes := #[t, t2] }) (hx : ev T x = some (accV i len)) (hy : ev T y = some yv) (hs : slI P t = some (e, z)) (ht2 : isSl P t2 = true)
    (hH : H[i]? = some (accB cs e len)) (hcs : cs.length = len * z.length) (hsrc : asrc H z.length yv = some (ys, n)) (hn : 0 < n) (hone : ys.all oneV = true) (hby : byI P e = some by_) (hb0 : 0 < by_) (hb : (2 * (len + n) + 192) * by_ ≤ 281474976710656) :
    OpJ P N o T H (.row H.length (len + n)) (H.set i .dead ++ [.row (cs ++ ys) e]) := by
  cases len with
  | zero =>
    have h0 : cs = [] := List.eq_nil_of_length_eq_zero (by simpa using hcs)
    subst h0
    have h1 : H.set i .dead = H := by
      apply List.ext_getElem?
      intro j
      rw [List.getElem?_set]
      split
      · rename_i hij
        subst hij
        split
        · exact hH.symm
        · rename_i h; rw [List.getElem?_eq_none (by omega)]
      · rfl
    rw [h1, List.nil_append]
    have := OpJ.appendNil (N := N) ho hx hy hs ht2 hsrc hn hone hby hb0 (by simpa using hb)
    simpa using this
  | succ len => exact OpJ.appendRow ho hx hy hs ht2 hH hcs hsrc hone hby hb0 hb

/-- A slice that has grown becomes immutable; only one slot and what is immutable is kept. -/
theorem To.acc (s i n : Nat) {xs : List PV} {e : TypeId} (hs : lk T s = some (accV i n)) (hH : H[i]? = some (accB (xs.map .p) e n)) (h0 : n = 0 → xs = []) : To P κ N T H ((s, .p (.is xs n)) :: pureT T) (H.set i .dead) := by
  cases n with
  | zero =>
    have h := h0 rfl
    subst h
    have h1 : H.set i .dead = H := by
      apply List.ext_getElem?
      intro j
      rw [List.getElem?_set]
      split
      · rename_i hij
        subst hij
        split
        · exact hH.symm
        · rename_i h; rw [List.getElem?_eq_none (by omega)]
      · rfl
    rw [h1]
    intro w I ρ tmps hi ht
    refine ⟨I, ρ, ExtW.refl _ _ _, hi, ⟨ht.size, fun s' v hv => ?_⟩, fun _ h _ => h⟩
    simp only [lk] at hv
    cases hb : Nat.beq s s' with
    | false => rw [hb] at hv; exact (ht.pureT (ExtW.refl _ _ _)).at_ s' v hv
    | true =>
      rw [hb] at hv
      have := Nat.eq_of_beq_eq_true hb
      subst this
      simp at hv
      subst hv
      exact .inl ⟨⟨_, _, ht.at_ s _ hs⟩, rfl⟩
  | succ n =>
    intro w I ρ tmps hi ht
    obtain ⟨I', h1, h2, h3⟩ := frz_step (i := i) (xs := xs) hi (by rw [show H[i]? = some (.row (xs.map .p) e) from hH]; rfl) ht
    refine ⟨I', ρ, h1.w, h2, ⟨ht.size, fun s' v hv => ?_⟩, fun _ h _ => h⟩
    simp only [lk] at hv
    cases hb : Nat.beq s s' with
    | false => rw [hb] at hv; exact (ht.pureT h1.w).at_ s' v hv
    | true =>
      rw [hb] at hv
      have := Nat.eq_of_beq_eq_true hb
      subst this
      simp at hv
      subst hv
      have := h3.at_ s (frzV i xs (.row i (n + 1))) (by rw [lk_frzT, hs]; rfl)
      simpa [frzV] using this

/-! ### Equality -/
def leqV : TypeDesc → Value → Value → Option Bool
  | .int _, .int k a, .int k' b => if k = k' then some (a == b) else none
  | .bool, .bool a, .bool b => some (a == b)
  | .string, .string a, .string b => some (a == b)
  | _, _, _ => none
def leqs : List TypeDesc → List Value → List Value → Option Bool
  | [], [], [] => some true
  | t :: ts, u :: us, v :: vs => match leqV t u v, leqs ts us vs with
    | some a, some b => some (a && b)
    | _, _ => none
  | _, _, _ => none
def peq : TypeDesc → PV → PV → Option Bool
  | .int _, .int k a, .int k' b => if k = k' then some (a == b) else none
  | .bool, .bool a, .bool b => some (a == b)
  | .string, .str a, .str b => some (a == b)
  | _, _, _ => none
def peqs : List TypeDesc → List PV → List PV → Option Bool
  | [], [], [] => some true
  | t :: ts, u :: us, v :: vs => match peq t u v, peqs ts us vs with
    | some a, some b => some (a && b)
    | _, _ => none
  | _, _, _ => none
theorem peq_rel {w : World} {I : Nat → Prop} {t : TypeDesc} {x y : PV} {u v : Value} {r : Bool} (h : peq t x y = some r) (hx : Rel w I x u) (hy : Rel w I y v) : leqV t u v = some r := by
  unfold peq at h
  split at h
  · simp only [Rel] at hx hy; subst hx hy; exact h
  · simp only [Rel] at hx hy; subst hx hy; exact h
  · simp only [Rel] at hx hy; subst hx hy; exact h
  · cases h
theorem peqs_rel {w : World} {I : Nat → Prop} : ∀ {ts : List TypeDesc} {xs ys : List PV} {us vs : List Value} {r : Bool}, peqs ts xs ys = some r → RelL w I xs us → RelL w I ys vs → leqs ts us vs = some r
  | [], [], [], us, vs, r, h, hx, hy => by
    simp [RelL] at hx hy
    subst hx hy
    exact h
  | t :: ts, x :: xs, y :: ys, us, vs, r, h, hx, hy => by
    obtain ⟨u, us', rfl, h1, h2⟩ := hx
    obtain ⟨v, vs', rfl, h3, h4⟩ := hy
    simp only [peqs] at h
    split at h
    · rename_i a b h5 h6
      simp only [leqs, peq_rel h5 h1 h3, peqs_rel h6 h2 h4]
      exact h
    · cases h
  | [], _ :: _, _, _, _, _, h, _, _ => by simp [peqs] at h
  | [], [], _ :: _, _, _, _, h, _, _ => by simp [peqs] at h
  | _ :: _, [], _, _, _, _, h, _, _ => by simp [peqs] at h
  | _ :: _, _ :: _, [], _, _, _, h, _, _ => by simp [peqs] at h

def eqFs (g : TypeId → Option (List TypeDesc)) (P : Program) : List Field → Nat → Option (List TypeDesc)
  | [], _ => some []
  | f :: fs, off => match g f.type, tyI P f.type with
    | some l, some (b, n) => if f.offset = off ∧ f.name ≠ "_" ∧ n = l.length ∧ (b = false → n = 1) then (eqFs g P fs (off + n)).map (l ++ ·) else none
    | _, _ => none
/-- The cells of a type whose values are compared cell by cell. -/
def eqTy (P : Program) : Nat → TypeId → Option (List TypeDesc)
  | 0, _ => none
  | d + 1, t => match P.underlying t with
    | some (.int k) => some [.int k]
    | some .bool => some [.bool]
    | some .string => some [.string]
    | some (.struct fs) => if P.stoodInHeld t = true then none else eqFs (eqTy P d) P fs.toList 0
    | some (.array n e) => match eqTy P d e, tyI P e with
      | some l, some (b, m) => if m = l.length ∧ (b = false → m = 1) then some (List.replicate n l).flatten else none
      | _, _ => none
    | _ => none

/-- A value out of its cells. -/
def valOf (b : Bool) (us : List Value) : Value := if b then .agg us.toArray else us.headD undef
theorem run_part' {w : World} {t : TypeId} {b : Bool} {n off : Nat} {us : List Value} (ht : tyI P t = some (b, n)) (hb : b = false → n = 1) (hl : off + n ≤ us.length) : (part t us.toArray off).run P w = .ok (valOf b ((us.drop off).take n)) w := by
  cases b with
  | true =>
    have : (us.toArray.extract off (off + n)) = ((us.drop off).take n).toArray := by
      apply Array.toList_inj.1
      rw [extract_list]
    simp [part, run_isAgg' ht, run_sizeOf' ht, valOf, this]
  | false =>
    have hn := hb rfl
    subst hn
    have h1 : us[off]? = some (us[off]'(by omega)) := List.getElem?_eq_getElem _
    have h2 : ((us.drop off).take 1).headD undef = us[off]'(by omega) := by
      rw [List.drop_eq_getElem_cons (by omega)]
      rfl
    simp only [valOf, Bool.false_eq_true, if_false]
    rw [h2]
    simp [part, run_isAgg' ht, h1]
theorem leqs_len : ∀ {ts : List TypeDesc} {us vs : List Value} {r : Bool}, leqs ts us vs = some r → us.length = ts.length ∧ vs.length = ts.length
  | [], [], [], _, _ => ⟨rfl, rfl⟩
  | t :: ts, u :: us, v :: vs, r, h => by
    simp only [leqs] at h
    split at h
    · rename_i a b h5 h6
      obtain ⟨h1, h2⟩ := leqs_len h6
      simp [h1, h2]
    · cases h
  | [], _ :: _, _, _, h => by simp [leqs] at h
  | [], [], _ :: _, _, h => by simp [leqs] at h
  | _ :: _, [], _, _, h => by simp [leqs] at h
  | _ :: _, _ :: _, [], _, h => by simp [leqs] at h
theorem leqs_app : ∀ {l1 l2 : List TypeDesc} {us vs : List Value} {r : Bool}, leqs (l1 ++ l2) us vs = some r → ∃ r1 r2, leqs l1 (us.take l1.length) (vs.take l1.length) = some r1 ∧ leqs l2 (us.drop l1.length) (vs.drop l1.length) = some r2 ∧ r = (r1 && r2)
  | [], l2, us, vs, r, h => ⟨true, r, by simp [leqs], by simpa using h, by simp⟩
  | t :: l1, l2, us, vs, r, h => by
    cases us with
    | nil => simp [leqs] at h
    | cons u us =>
      cases vs with
      | nil => simp [leqs] at h
      | cons v vs =>
        simp only [List.cons_append, leqs] at h
        split at h
        · rename_i a b h5 h6
          obtain ⟨r1, r2, k1, k2, rfl⟩ := leqs_app h6
          simp at h
          refine ⟨a && r1, r2, ?_, by simpa using k2, by rw [← h, Bool.and_assoc]⟩
          simp [leqs, h5, k1]
        · cases h

theorem run_eqFs {g : TypeId → Option (List TypeDesc)} {d : Nat} {w : World} (hg : ∀ (t : TypeId) (l : List TypeDesc) (b : Bool) (n : Nat), g t = some l → tyI P t = some (b, n) → n = l.length → (b = false → n = 1) → ∀ us vs r, leqs l us vs = some r → (Op.equalIn d t (valOf b us) (valOf b vs)).run P w = .ok r w) :
    ∀ (fs : List Field) (off : Nat) (l : List TypeDesc) (us vs : List Value) (r : Bool), eqFs g P fs off = some l → off ≤ us.length → off ≤ vs.length → leqs l (us.drop off) (vs.drop off) = some r → (Op.eqFields d us.toArray vs.toArray fs).run P w = .ok r w
  | [], off, l, us, vs, r, h, hu, hv, hr => by
    simp [eqFs] at h
    subst h
    have h1 := leqs_len hr
    have h2 : us.drop off = [] := List.eq_nil_of_length_eq_zero h1.1
    have h3 : vs.drop off = [] := List.eq_nil_of_length_eq_zero h1.2
    rw [h2, h3] at hr
    simp [leqs] at hr
    simp [Op.eqFields, hr]
  | f :: fs, off, l, us, vs, r, h, hu, hv, hr => by
    simp only [eqFs] at h
    split at h
    · rename_i l1 b n h1 h2
      split at h
      · rename_i hc
        obtain ⟨rfl, hname, hn, hb⟩ := hc
        simp only [Option.map_eq_some_iff] at h
        obtain ⟨l2, h3, rfl⟩ := h
        obtain ⟨r1, r2, k1, k2, rfl⟩ := leqs_app hr
        have hlen := leqs_len hr
        simp only [List.length_drop, List.length_append] at hlen
        rw [← hn] at k1 k2 hlen
        rw [List.drop_drop, List.drop_drop] at k2
        have p1 := run_part' (P := P) (w := w) (off := f.offset) (us := us) h2 hb (by omega)
        have p2 := run_part' (P := P) (w := w) (off := f.offset) (us := vs) h2 hb (by omega)
        have p3 := hg f.type l1 b n h1 h2 hn hb _ _ _ k1
        have ih := run_eqFs hg fs (f.offset + n) l2 us vs r2 h3 (by omega) (by omega) k2
        simp only [Op.eqFields, hname, ne_eq, not_false_eq_true, if_true, Sem.run_bind, p1, p2, p3, Result.andThen_ok]
        cases r1
        · simp
        · simpa using ih
      · cases h
    · cases h

theorem run_eqItems' {d m : Nat} {e : TypeId} {l : List TypeDesc} {b : Bool} {w : World} (ht : tyI P e = some (b, m)) (hm : m = l.length) (hb : b = false → m = 1) (hg : ∀ us vs r, leqs l us vs = some r → (Op.equalIn d e (valOf b us) (valOf b vs)).run P w = .ok r w) :
    ∀ (n k : Nat) (us vs : List Value) (r : Bool), k * m ≤ us.length → k * m ≤ vs.length → leqs (List.replicate n l).flatten (us.drop (k * m)) (vs.drop (k * m)) = some r → (Op.eqItems d e m us.toArray vs.toArray (List.range' k n)).run P w = .ok r w
  | 0, k, us, vs, r, hu, hv, hr => by
    have h1 := leqs_len hr
    have h2 : us.drop (k * m) = [] := List.eq_nil_of_length_eq_zero h1.1
    have h3 : vs.drop (k * m) = [] := List.eq_nil_of_length_eq_zero h1.2
    rw [h2, h3] at hr
    simp [leqs] at hr
    simp [Op.eqItems, hr]
  | n + 1, k, us, vs, r, hu, hv, hr => by
    rw [List.replicate_succ, List.flatten_cons] at hr
    have hlen := leqs_len hr
    simp only [List.length_drop, List.length_append] at hlen
    obtain ⟨r1, r2, k1, k2, rfl⟩ := leqs_app hr
    rw [← hm] at k1 k2 hlen
    rw [List.drop_drop, List.drop_drop] at k2
    have e1 : k * m + m = (k + 1) * m := by rw [Nat.add_mul, Nat.one_mul]
    rw [e1] at k2
    have p1 := run_part' (P := P) (w := w) (off := k * m) (us := us) ht hb (by omega)
    have p2 := run_part' (P := P) (w := w) (off := k * m) (us := vs) ht hb (by omega)
    have p3 := hg _ _ _ k1
    have ih := run_eqItems' ht hm hb hg n (k + 1) us vs r2 (by omega) (by omega) k2
    simp only [List.range'_succ, Op.eqItems, Sem.run_bind, p1, p2, p3, Result.andThen_ok]
    cases r1
    · simp
    · simpa using ih

theorem run_eqTy {w : World} : ∀ (d : Nat) (t : TypeId) (l : List TypeDesc) (b : Bool) (n : Nat), eqTy P d t = some l → tyI P t = some (b, n) → n = l.length → (b = false → n = 1) → ∀ (k : Nat) (us vs : List Value) (r : Bool), leqs l us vs = some r → (Op.equalIn (d + k) t (valOf b us) (valOf b vs)).run P w = .ok r w
  | 0, _, _, _, _, h, _, _, _, _, _, _, _, _ => by simp [eqTy] at h
  | d + 1, t, l, b, n, h, ht, hn, hb, k, us, vs, r, hr => by
    obtain ⟨dd, inf, hu, hi, hagg, hsz⟩ := tyI_some ht
    have hlen := leqs_len hr
    unfold eqTy at h
    rw [show d + 1 + k = d + k + 1 by omega]
    rw [hu] at h
    have scalar : ∀ td : TypeDesc, l = [td] → isAggD dd = false → ∃ u v, us = [u] ∧ vs = [v] ∧ leqV td u v = some r ∧ b = false := by
      rintro td rfl hd
      simp at hlen
      obtain ⟨u, rfl⟩ := List.length_eq_one_iff.1 hlen.1
      obtain ⟨v, rfl⟩ := List.length_eq_one_iff.1 hlen.2
      refine ⟨u, v, rfl, rfl, ?_, by rw [← hagg, hd]⟩
      simp only [leqs] at hr
      split at hr
      · rename_i a c h5 h6
        simp at h6 hr
        subst h6
        simpa [h5] using hr
      · cases hr
    cases dd <;> simp only [Option.some.injEq] at h <;> try (cases h; done)
    case bool =>
      obtain ⟨u, v, rfl, rfl, h1, rfl⟩ := scalar _ h.symm rfl
      unfold leqV at h1
      split at h1 <;> simp at h1 <;> try contradiction
      subst h1
      simp [valOf, Op.equalIn, run_underlying hu]
    case int ik =>
      obtain ⟨u, v, rfl, rfl, h1, rfl⟩ := scalar _ h.symm rfl
      unfold leqV at h1
      split at h1 <;> simp at h1 <;> try contradiction
      obtain ⟨rfl, rfl⟩ := h1
      simp [valOf, Op.equalIn, run_underlying hu]
    case string =>
      obtain ⟨u, v, rfl, rfl, h1, rfl⟩ := scalar _ h.symm rfl
      unfold leqV at h1
      split at h1 <;> simp at h1 <;> try contradiction
      subst h1
      simp [valOf, Op.equalIn, run_underlying hu]
    case struct fs =>
      split at h
      · cases h
      · rename_i hst
        have hbt : b = true := by rw [← hagg]; rfl
        subst hbt
        have hfo : P.fieldsOf t = fs := by simp [Program.fieldsOf, hu]
        simp only [valOf, if_true]
        rw [run_equalIn_struct w (d + k) t _ _ (by rw [hfo]; exact hu) (by simpa using hst), hfo]
        exact run_eqFs (fun t l b n h1 h2 h3 h4 us vs r h5 => run_eqTy d t l b n h1 h2 h3 h4 k us vs r h5) fs.toList 0 l us vs r h (Nat.zero_le _) (Nat.zero_le _) (by simpa using hr)
    case array m e =>
      split at h
      · rename_i l1 b1 m1 h1 h2
        split at h
        · rename_i hc
          simp at h
          subst h
          have hbt : b = true := by rw [← hagg]; rfl
          subst hbt
          obtain ⟨_, inf2, _, hi2, _, hs2⟩ := tyI_some h2
          simp only [valOf, if_true]
          have hce : P.cellsOf e = m1 := by simp [Program.cellsOf, hi2, hs2]
          rw [run_equalIn_array w (d + k) _ _ hu hi2, hce, List.range_eq_range']
          exact run_eqItems' h2 hc.1 hc.2 (fun us vs r h5 => run_eqTy d e l1 b1 m1 h1 h2 hc.1 hc.2 k us vs r h5) m 0 us vs r (by omega) (by omega) (by simpa using hr)
        · cases h
      · cases h

theorem OpJ.eqAgg {x y : Operand} {t t' : TypeId} {op : BinOp} {d n : Nat} {l : List TypeDesc} {cs ds : List PV} {r : Bool} (ho : o.op = .binOp op t x y t') (hop : op = .eql ∨ op = .neq) (hx : ev T x = some (.p (.agg cs))) (hy : ev T y = some (.p (.agg ds))) (hd : d ≤ 10000) (he : eqTy P d t = some l) (ht : tyI P t = some (true, n)) (hn : n = l.length)
    (hg : P.eqGuardType P.depth t = false) (hq : peqs l cs ds = some r) : OpJ P N o T H (.p (.bool (if op = .eql then r else !r))) H :=
  OpJ.of_pure (by simp [ho]) fun w I ρ a hi hT => by
    obtain ⟨us, hu, h1⟩ := hT.ev hx
    obtain ⟨vs, hv, h2⟩ := hT.ev hy
    have h3 := peqs_rel hq h1 h2
    have h4 := run_eqTy (P := P) (w := w) d t l true n he ht hn (by simp) (10000 - d) us.toList vs.toList r h3
    rw [show d + (10000 - d) = 10000 by omega] at h4
    simp only [valOf, if_true, Array.toArray_toList] at h4
    have hgd := run_eqGuard_agg (P := P) w op t x y us vs hg
    rcases hop with rfl | rfl
    · refine ⟨.bool r, ?_, by simp [RelV, Rel]⟩
      simp [execOp, ho, hu, hv, hgd, run_eql_struct, h4]
    · refine ⟨.bool (!r), ?_, by simp [RelV, Rel]⟩
      simp [execOp, ho, hu, hv, hgd, run_neq_struct, h4]
theorem OpJ.eqBool {x y : Operand} {t t' : TypeId} {a b : Bool} (ho : o.op = .binOp .eql t x y t') (hx : ev T x = some (.p (.bool a))) (hy : ev T y = some (.p (.bool b))) (ht : P.underlying t = some .bool) : OpJ P N o T H (.p (.bool (a == b))) H :=
  OpJ.of_pure (by simp [ho]) fun w I ρ ac hi hT => by
    have hb : (binOp .eql t (.bool a) (.bool b)).run P w = .ok (.bool (a == b)) w := by
      simp only [binOp]
      simp [run_equal_bool (P := P) w t a b ht]
    refine ⟨.bool (a == b), ?_, by simp [RelV, Rel]⟩
    simp [execOp, ho, ev_bool hT hx, ev_bool hT hy, eqGuard_bool, hb]
theorem OpJ.neqBool {x y : Operand} {t t' : TypeId} {a b : Bool} (ho : o.op = .binOp .neq t x y t') (hx : ev T x = some (.p (.bool a))) (hy : ev T y = some (.p (.bool b))) (ht : P.underlying t = some .bool) : OpJ P N o T H (.p (.bool (!(a == b)))) H :=
  OpJ.of_pure (by simp [ho]) fun w I ρ ac hi hT => by
    have hb : (binOp .neq t (.bool a) (.bool b)).run P w = .ok (.bool (!(a == b))) w := by
      simp only [binOp]
      simp [run_equal_bool (P := P) w t a b ht]
    refine ⟨.bool (!(a == b)), ?_, by simp [RelV, Rel]⟩
    simp [execOp, ho, ev_bool hT hx, ev_bool hT hy, eqGuard_bool, hb]
end
end Go.AF
