/-
  Short forms of the rules, own blocks that become immutable, slices that are built, cut, made and appended to. No condition; generic over any program.
-/
import Derived.Test.YtmcejcidbekpkaaAf8
set_option linter.unusedVariables false
set_option linter.unusedSimpArgs false
set_option linter.unnecessarySimpa false
namespace Go.AF
section
variable {P : Program} {R : Option Nat} {N κ : Nat} {Q Q' : Post} {T T' : Tm} {H H' : List Blk} {o : Oper} {ops : Array Oper} {rest : List Oper}

/-! ### Short forms -/
theorem AList.c (d : Nat) {v : V} (hd : o.dst = some d) (hN : dstOk N (some d) = true) (hg : o.guard = none) (hop : OpJ P N o T H v H') (next : AList P R N κ ops rest Q ((d, v) :: T) H') : AList P R N κ ops (o :: rest) Q T H :=
  AList.cons hg (by rw [hd]; exact hN) hop (by rw [hd]; exact next)
theorem AList.c0 {v : V} (hd : o.dst = none) (hg : o.guard = none) (hop : OpJ P N o T H v H') (next : AList P R N κ ops rest Q T H') : AList P R N κ ops (o :: rest) Q T H :=
  AList.cons hg (by rw [hd]; rfl) hop (by rw [hd]; exact next)
theorem AList.g (d s : Nat) {j : Nat} {want c : Bool} {x v : V} (hd : o.dst = some d) (hN : dstOk N (some d) = true) (hg : o.guard = some (j, want)) (hs : gslot ops j = some s) (hsN : dstOk N (some s) = true)
    (hb : lk T s = some x) (hc : gcond want x = some c) (T2 : Tm) (h2 : c = true → subG T2 T) (hop : c = true → OpJ P N o T2 H v H) (next : AList P R N κ ops rest Q ((d, .opt c v) :: T) H) : AList P R N κ ops (o :: rest) Q T H :=
  AList.guard hg hs (by rw [hd]; exact hN) hsN hb hc T2 h2 hop (by rw [hd]; exact next)
theorem AList.gYes (d s : Nat) {j : Nat} {want c : Bool} {x v : V} (hd : o.dst = some d) (hN : dstOk N (some d) = true) (hg : o.guard = some (j, want)) (hs : gslot ops j = some s) (hsN : dstOk N (some s) = true)
    (hb : lk T s = some x) (hc : gcond want x = some c) (hw : c = true) (hop : OpJ P N o T H v H') (next : AList P R N κ ops rest Q ((d, v) :: T) H') : AList P R N κ ops (o :: rest) Q T H :=
  AList.guardYes hg hs (by rw [hd]; exact hN) hsN hb hc hw hop (by rw [hd]; exact next)
theorem AList.gNo (d s : Nat) {j : Nat} {want c : Bool} {x : V} (hd : o.dst = some d) (hN : dstOk N (some d) = true) (hg : o.guard = some (j, want)) (hs : gslot ops j = some s) (hsN : dstOk N (some s) = true)
    (hb : lk T s = some x) (hc : gcond want x = some c) (hw : c = false) (next : AList P R N κ ops rest Q ((d, .top) :: T) H) : AList P R N κ ops (o :: rest) Q T H :=
  AList.guardNo hg hs (by rw [hd]; exact hN) hsN hb hc hw (by rw [hd]; exact next)
theorem AList.sub (T' : Tm) {l : List Oper} (hs : subB T' T) (h : AList P R N κ ops l Q T' H) : AList P R N κ ops l Q T H :=
  fun QX B w I ρ a hi ht hm hq => h QX B w I ρ a hi (ht.sub (Sub.of hs)) hm hq
theorem beqT {b : Bool} (h : b = true) : (b == true) = true := by rw [h]; rfl
theorem beqF {b : Bool} (h : b = false) : (b == false) = true := by rw [h]; rfl

theorem i64ok {n : Int} (h : -9223372036854775808 ≤ n ∧ n ≤ 9223372036854775807) : IntKind.i64.wrap n = n := by rw [IntKind.wrap_i64]; omega
theorem u8ok {n : Int} (h : 0 ≤ n ∧ n ≤ 255) : IntKind.u8.wrap n = n := by rw [IntKind.wrap_u8]; omega
theorem u32ok {n : Int} (h : 0 ≤ n ∧ n ≤ 4294967295) : IntKind.u32.wrap n = n := by rw [IntKind.wrap_u32]; omega
theorem i32ok {n : Int} (h : -2147483648 ≤ n ∧ n ≤ 2147483647) : IntKind.i32.wrap n = n := by rw [IntKind.wrap_i32]; omega

/-- The end of a pure function. -/
def Fin (P : Program) (N : Nat) (fn : Func) (r : PV) : Post := fun x T H => (x = .normal ∨ x = .ret) ∧ resV P N fn T H (.p r)
theorem Pure.start {f : FuncId} {fn : Func} {c : Code} {args : List PV} {r : PV} (hf : P.funcs[f]? = some fn) (hb : fn.body = some c) (hN : fn.ntmps = N) (hn : args.length ≤ N) (h : AWp P none N 0 c (Fin P N fn r) (slotsAt 0 (args.map .p)) []) : Pure P f args r := by
  subst hN
  exact Pure.of_body hf hb hn h
theorem Fin.one {fn : Func} {q : ResultVar} {r : PV} (h : fn.results = #[q]) (hr : resOne P T H q (.p r)) : Fin P N fn r .ret T H := ⟨.inr rfl, resV.one h hr⟩
theorem Fin.one_n {fn : Func} {q : ResultVar} {r : PV} (h : fn.results = #[q]) (hr : resOne P T H q (.p r)) : Fin P N fn r .normal T H := ⟨.inl rfl, resV.one h hr⟩
theorem allP_map (xs : List PV) : allP (xs.map .p) = some xs := by
  induction xs with
  | nil => rfl
  | cons x xs ih => simp [allP, ih]
theorem Fin.many {fn : Func} {r1 r2 : ResultVar} {rs : List ResultVar} {vs : List V} {xs : List PV} (h : fn.results = (r1 :: r2 :: rs).toArray) (hr : ress P T H (r1 :: r2 :: rs) vs) (hv : vs = xs.map .p) : Fin P N fn (.tuple xs) .ret T H := by
  refine ⟨.inr rfl, ?_⟩
  have := resV.many (N := N) h hr
  have e : tupOf vs = .p (.tuple xs) := by
    subst hv
    simp [tupOf, allP_map]
  rw [e] at this
  exact this

/-- The end of a function that works on own blocks. -/
def FinO (P : Program) (N : Nat) (fn : Func) (Qr : V → List Blk → Prop) : Post := fun x T H => (x = .normal ∨ x = .ret) ∧ ∃ v, resV P N fn T H v ∧ Qr v H
theorem ACalls.start {f : FuncId} {fn : Func} {c : Code} {args : List V} {Qr : V → List Blk → Prop} (hf : P.funcs[f]? = some fn) (hb : fn.body = some c) (hN : fn.ntmps = N) (hn : args.length ≤ N) (h : AWp P none N H.length c (FinO P N fn Qr) (slotsAt 0 args) H) : ACalls P f args H Qr := by
  subst hN
  exact ACalls.of_body hf hb hn h

/-! ### Own blocks that nobody will write any more -/
mutual
def frzV (i : Nat) (xs : List PV) : V → V
  | .p x => .p x
  | .ptr j off => if j = i then .p (.ip xs off) else .ptr j off
  | .row j len => if j = i then .p (.is xs len) else .row j len
  | .sl j off len => if j = i then .p (.is ((xs.drop off)) len) else .sl j off len
  | .map j => .map j
  | .func fn fi ca => match allP (frzL i xs fi), allP (frzL i xs ca) with
    | some a, some b => .p (.func fn a b)
    | _, _ => .func fn (frzL i xs fi) (frzL i xs ca)
  | .iface t v => match frzV i xs v with
    | .p x => .p (.iface t x)
    | y => .iface t y
  | .agg cs => match allP (frzL i xs cs) with
    | some a => .p (.agg a)
    | none => .agg (frzL i xs cs)
  | .tuple cs => match allP (frzL i xs cs) with
    | some a => .p (.tuple a)
    | none => .tuple (frzL i xs cs)
  | .opt g v => .opt g (frzV i xs v)
  | .top => .top
def frzL (i : Nat) (xs : List PV) : List V → List V
  | [] => []
  | v :: vs => frzV i xs v :: frzL i xs vs
end

mutual
theorem frzV_rel {w : World} {I : Nat → Prop} {ρ : List Nat} {i b : Nat} {xs : List PV} (hρ : ρ[i]? = some b) (hI : I b) (hx : RelAt w I xs b 0) : ∀ (v : V) (u : Value), RelV P w I ρ v u → RelV P w I ρ (frzV i xs v) u
  | .p x, u, h => by simpa [frzV] using h
  | .ptr j off, u, h => by
    simp only [frzV]
    split
    · rename_i e; subst e
      obtain ⟨b', hb, hu⟩ := h
      rw [hρ] at hb; cases hb
      exact ⟨b, 0, hI, by simpa using hu, hx⟩
    · exact h
  | .row j len, u, h => by
    simp only [frzV]
    split
    · rename_i e; subst e
      obtain ⟨b', e', cap, hb, hu, _, hl⟩ := h
      rw [hρ] at hb; cases hb
      exact .inr ⟨b, 0, cap, fun _ => hI, hl, hu, hx⟩
    · exact h
  | .sl j off len, u, h => by
    simp only [frzV]
    split
    · rename_i e; subst e
      obtain ⟨b', cap, hb, hu, hl⟩ := h
      rw [hρ] at hb; cases hb
      exact .inr ⟨b, off, cap, fun _ => hI, hl, hu, by simpa using RelAt.drop off hx⟩
    · exact h
  | .map j, u, h => by simpa [frzV] using h
  | .func fn fi ca, u, h => by
    obtain ⟨us, vs, hu, h1, h2⟩ := h
    have r1 := frzL_rel hρ hI hx fi _ h1
    have r2 := frzL_rel hρ hI hx ca _ h2
    simp only [frzV]
    split
    · rename_i a c e1 e2
      rw [allP_some e1] at r1
      rw [allP_some e2] at r2
      exact ⟨us, vs, hu, RelVL.pure.1 r1, RelVL.pure.1 r2⟩
    · exact ⟨us, vs, hu, r1, r2⟩
  | .iface t v, u, h => by
    obtain ⟨x, hu, h1⟩ := h
    have r := frzV_rel hρ hI hx v x h1
    simp only [frzV]
    split
    · rename_i y e; rw [e] at r; exact ⟨x, hu, r⟩
    · exact ⟨x, hu, r⟩
  | .agg cs, u, h => by
    obtain ⟨us, hu, h1⟩ := h
    have r := frzL_rel hρ hI hx cs _ h1
    simp only [frzV]
    split
    · rename_i a e; rw [allP_some e] at r; exact ⟨us, hu, RelVL.pure.1 r⟩
    · exact ⟨us, hu, r⟩
  | .tuple cs, u, h => by
    obtain ⟨us, hu, h1⟩ := h
    have r := frzL_rel hρ hI hx cs _ h1
    simp only [frzV]
    split
    · rename_i a e; rw [allP_some e] at r; exact ⟨us, hu, RelVL.pure.1 r⟩
    · exact ⟨us, hu, r⟩
  | .opt g v, u, h => ⟨fun hg => frzV_rel hρ hI hx v u (h.1 hg), h.2⟩
  | .top, _, _ => by simp [frzV, RelV]
theorem frzL_rel {w : World} {I : Nat → Prop} {ρ : List Nat} {i b : Nat} {xs : List PV} (hρ : ρ[i]? = some b) (hI : I b) (hx : RelAt w I xs b 0) : ∀ (vs : List V) (us : List Value), RelVL P w I ρ vs us → RelVL P w I ρ (frzL i xs vs) us
  | [], us, h => by simpa [frzL] using h
  | v :: vs, us, h => by
    obtain ⟨u, us', hu, h1, h2⟩ := h
    exact ⟨u, us', hu, frzV_rel hρ hI hx v u h1, frzL_rel hρ hI hx vs us' h2⟩
end
def frzT (i : Nat) (xs : List PV) : Tm → Tm
  | [] => []
  | (s, v) :: r => (s, frzV i xs v) :: frzT i xs r
theorem lk_frzT {i : Nat} {xs : List PV} : ∀ (T : Tm) (s : Nat), lk (frzT i xs T) s = (lk T s).map (frzV i xs)
  | [], s => rfl
  | (a, v) :: r, s => by
    simp only [frzT, lk]
    cases Nat.beq a s with
    | true => rfl
    | false => exact lk_frzT r s

theorem RelAt.of_list {w : World} {I : Nat → Prop} {b : Nat} : ∀ (xs : List PV) (us : List Value) (k : Nat), RelL w I xs us → (∀ j u, us[j]? = some u → w.cell? ⟨b, k + j, none⟩ = some u) → RelAt w I xs b k
  | [], _, _, _, _ => by simp [RelAt]
  | x :: xs, us, k, h, hc => by
    obtain ⟨u, us', rfl, h1, h2⟩ := h
    exact ⟨⟨u, by simpa using hc 0 u rfl, h1⟩, RelAt.of_list xs us' (k + 1) h2 fun j v hj => by have := hc (j + 1) v (by simpa using hj); rwa [show k + (j + 1) = k + 1 + j by omega] at this⟩

def blkLive (H : List Blk) (i : Nat) : Prop := ∃ cs e, H[i]? = some (.cells cs e) ∨ H[i]? = some (.row cs e)

theorem frz_step {w : World} {I : Nat → Prop} {ρ : List Nat} {i : Nat} {xs : List PV} {tmps : Array Value} (hi : Inv P w I ρ H) (hc : blkCells H[i]? = some (xs.map .p)) (ht : TRel P w I ρ N T tmps) :
    ∃ I', Ext w I ρ w I' ρ ∧ Inv P w I' ρ (H.set i .dead) ∧ TRel P w I' ρ N (frzT i xs T) tmps := by
  obtain ⟨b, arr, e, hρ, hw, hl, hr⟩ := own_cells hi hc
  have hH : ∃ blk, H[i]? = some blk ∧ blk.live = true := by
    unfold blkCells at hc
    split at hc
    · rename_i h; exact ⟨_, h, rfl⟩
    · rename_i h; exact ⟨_, h, rfl⟩
    · cases hc
  obtain ⟨blk, hH, hlive⟩ := hH
  have hE := Ext.freeze hi hρ hH hlive
  refine ⟨_, hE, Inv.freeze hi hρ hH hlive, ht.size, fun s v hv => ?_⟩
  rw [lk_frzT, Option.map_eq_some_iff] at hv
  obtain ⟨v0, h1, rfl⟩ := hv
  have hx : RelAt w (fun k => I k ∨ k = b) xs b 0 := by
    have h2 := RelVL.pure.1 (RelVL.ext hE hr)
    refine RelAt.of_list xs _ 0 h2 fun j u hj => ?_
    rw [List.getElem?_take] at hj
    split at hj
    · simp only [World.cell?, hw]
      simpa using hj
    · cases hj
  exact frzV_rel hρ (.inr rfl) hx v0 _ ((ht.at_ s v0 h1).ext hE)

/-- Own block i becomes immutable. -/
theorem AList.freeze (i : Nat) {xs : List PV} {l : List Oper} {vs : List V} (hc : blkCells H[i]? = some vs) (hp : allP vs = some xs) (h : AList P R N κ ops l Q (frzT i xs T) (H.set i .dead)) : AList P R N κ ops l Q T H := by
  intro QX B w I ρ a hi ht hm hq
  rw [allP_some hp] at hc
  obtain ⟨I', h1, h2, h3⟩ := frz_step hi hc ht
  exact h QX B w I' ρ a h2 h3 (hm.ext h1) fun e a2 w2 q => hq e a2 w2 (QC.ext h1.w q)
theorem AWp.freeze (i : Nat) {xs : List PV} {c : Code} {vs : List V} (hc : blkCells H[i]? = some vs) (hp : allP vs = some xs) (h : AWp P R N κ c Q (frzT i xs T) (H.set i .dead)) : AWp P R N κ c Q T H := by
  intro B w I ρ a hi ht hm
  rw [allP_some hp] at hc
  obtain ⟨I', h1, h2, h3⟩ := frz_step hi hc ht
  exact wpIn_mono (h B w I' ρ a h2 h3 (hm.ext h1)) fun _ _ _ q => QC.ext h1.w q

/-! ### An element of a slice, as a window of its own -/
theorem flat_win {α β : Type} {f : α → List β} {sz : Nat} (hf : ∀ x, (f x).length = sz) : ∀ (xs : List α) (k : Nat) (hk : k < xs.length), ((xs.flatMap f).drop (k * sz)).take sz = f xs[k]
  | x :: xs, 0, _ => by
    simp only [Nat.zero_mul, List.drop_zero, List.flatMap_cons, List.getElem_cons_zero]
    rw [List.take_append_of_le_length (by rw [hf]; exact Nat.le_refl _)]
    rw [← hf x, List.take_length]
  | x :: xs, k + 1, hk => by
    have ih := flat_win hf xs k (by simpa using hk)
    simp only [List.flatMap_cons, List.getElem_cons_succ]
    rw [List.drop_append, List.drop_of_length_le (by rw [hf, Nat.add_mul, Nat.one_mul]; omega), List.nil_append, hf]
    rw [show (k + 1) * sz - sz = k * sz by rw [Nat.add_mul, Nat.one_mul]; omega]
    exact ih

theorem OpJ.indexWin {x y : Operand} {t : TypeId} {kd : IntKind} {sz len k : Nat} {cs win : List PV} (ho : o.op = .indexAddr t x y) (hx : ev T x = some (.p (.is cs len))) (hy : ev T y = some (.p (.int kd (k : Int)))) (ht : isSl P t = true) (he : elI P t = some sz)
    (hk : k < len) (hw : (cs.drop (k * sz)).take sz = win) (hn : cs ≠ []) : OpJ P N o T H (.p (.ip win 0)) H :=
  OpJ.of_pure (by simp [ho]) fun w I ρ a hi hT => by
    have hn' := ev_int hT hy
    cases hu : P.underlying t with
    | none => simp [isSl, hu] at ht
    | some d =>
      cases d <;> simp [isSl, hu] at ht
      rename_i e
      simp only [elI, hu, Option.map_eq_some_iff] at he
      obtain ⟨⟨b, m⟩, htm, rfl⟩ := he
      rcases hT.ev hx with ⟨_, hz⟩ | ⟨blk, off, cap, hb, hle, hsl, hat⟩
      · omega
      · refine ⟨.pointer (some ⟨blk, off + k * m, none⟩), ?_, blk, off + k * m, hb hn, rfl, ?_⟩
        · have hlt' : (k : Int) < (len : Int) := by omega
          have h0 : (0 : Int) ≤ k := by omega
          simp [execOp, ho, Instr.indexAt, hn', run_asIntOf, hsl, run_underlying hu, h0, hlt', run_sizeOf' htm, add_none]
        · rw [← hw]
          exact RelAt.take m (RelAt.drop _ hat)
/-- The same at a slice of whatever elements, each of sz cells. -/
theorem OpJ.indexEl {α : Type} {x y : Operand} {t : TypeId} {kd : IntKind} {sz len k : Nat} {xs : List α} {f : α → List PV} (ho : o.op = .indexAddr t x y) (hx : ev T x = some (.p (.is (xs.flatMap f) len))) (hy : ev T y = some (.p (.int kd (k : Int)))) (ht : isSl P t = true)
    (he : elI P t = some sz) (hl : len = xs.length) (hf : ∀ x, (f x).length = sz) (h0 : 0 < sz) (hk : k < xs.length) : OpJ P N o T H (.p (.ip (f xs[k]) 0)) H :=
  OpJ.indexWin ho hx hy ht he (hl ▸ hk) (flat_win hf xs k hk) (by
    intro hn
    have h1 : (xs.flatMap f).length = 0 := by rw [hn]; rfl
    have h2 := flat_win hf xs k hk
    have h3 := hf xs[k]
    rw [← h2, hn] at h3
    simp at h3
    omega)

/-! ### Slices that are built -/
theorem range_mod {α : Type} [Inhabited α] (z : List α) (hz : 0 < z.length) : ∀ n : Nat, (List.range (n * z.length)).map (fun i => z[i % z.length]!) = (List.replicate n z).flatten
  | 0 => by simp
  | n + 1 => by
    rw [Nat.add_mul, Nat.one_mul, List.range_add, List.map_append, range_mod z hz n, List.replicate_succ', List.flatten_append]
    congr 1
    simp only [List.map_map, List.flatten_cons, List.flatten_nil, List.append_nil]
    apply List.ext_getElem
    · simp
    · intro i h1 h2
      simp at h1
      have : (n * z.length + i) % z.length = i := by
        rw [Nat.add_comm, Nat.add_mul_mod_self_right, Nat.mod_eq_of_lt h1]
      simp [this, h1]

theorem RelL.append {w : World} {I : Nat → Prop} : ∀ {xs ys : List PV} {us vs : List Value}, RelL w I xs us → RelL w I ys vs → RelL w I (xs ++ ys) (us ++ vs)
  | [], ys, us, vs, h, k => by simp [RelL] at h; subst h; exact k
  | x :: xs, ys, us, vs, h, k => by
    obtain ⟨u, us', rfl, h1, h2⟩ := h
    exact ⟨u, us' ++ vs, rfl, h1, RelL.append h2 k⟩
theorem RelL.repl {w : World} {I : Nat → Prop} {z : List PV} {us : List Value} (h : RelL w I z us) : ∀ n : Nat, RelL w I (List.replicate n z).flatten (List.replicate n us).flatten
  | 0 => by simp [RelL]
  | n + 1 => by
    simp only [List.replicate_succ, List.flatten_cons]
    exact RelL.append h (RelL.repl h n)
theorem RelL.length {w : World} {I : Nat → Prop} : ∀ {xs : List PV} {us : List Value}, RelL w I xs us → us.length = xs.length
  | [], us, h => by simp [RelL] at h; simp [h]
  | x :: xs, us, h => by
    obtain ⟨u, us', rfl, _, h2⟩ := h
    simp [RelL.length h2]

/-- The zero cells of a slice type's element, and its size. -/
def slI (P : Program) (t : TypeId) : Option (TypeId × List PV) :=
  match P.underlying t with
  | some (.slice e) => match zeroI P e, tyI P e with
    | some z, some (_, n) => if (cellsP z).length = n ∧ 0 < n ∧ cellsOk (.p z) = true then some (e, cellsP z) else none
    | _, _ => none
  | _ => none
theorem slI_some {t : TypeId} {e : TypeId} {z : List PV} (h : slI P t = some (e, z)) : P.underlying t = some (.slice e) ∧ (∃ b, tyI P e = some (b, z.length)) ∧ 0 < z.length ∧ ∀ w, ∃ u : Value, (zeroValue e).run P w = .ok u w ∧ ∀ I, RelL w I z u.cells.toList := by
  unfold slI at h
  split at h
  · rename_i e' hu
    split at h
    · rename_i z' b n hz ht
      split at h
      · rename_i hc
        simp at h
        obtain ⟨rfl, rfl⟩ := h
        refine ⟨hu, ⟨b, by rw [hc.1]; exact ht⟩, by rw [hc.1]; exact hc.2.1, fun w => ?_⟩
        obtain ⟨u, h1, h2⟩ := run_zero hz w
        exact ⟨u, h1, fun I => RelVL.pure.1 (cells_rel (P := P) (ρ := []) (v := .p z') (h2 I) hc.2.2)⟩
      · cases h
    · cases h
  · cases h

theorem run_buildSlice {w : World} {I : Nat → Prop} {ρ : List Nat} {a : Act} {t e : TypeId} {len : Nat} {parts : Array (Nat × Operand)} {z : List PV} {vs : List (Nat × V)} {r : List V} (hs : slI P t = some (e, z)) (hlen : len * z.length ≤ 16777216) (hT : TRel P w I ρ N T a.tmps) (hv : evParts T parts.toList = some vs)
    (hr : abuild ((List.range len).map fun i => (i * z.length, z.length)) ((List.replicate len z).flatten.map .p) vs = some r) :
    ∃ arr : Array Value, RelVL P w I ρ r arr.toList ∧ arr.size = len * z.length ∧ (Instr.buildSlice t len (parts.map fun (x : Nat × Operand) => (x.1, a.eval x.2))).run P w = .ok (.slice (some ⟨w.heap.size, 0, none⟩) len len) (w.alloc (.cells arr e)) := by
  obtain ⟨hu, ⟨b, ht⟩, hz0, hz⟩ := slI_some hs
  obtain ⟨hm, hrel⟩ := evParts_rel hT hv
  obtain ⟨u, h1, h2⟩ := hz w
  have h3 := h2 I
  have h4 := RelL.length h3
  have hcells : ∀ arr0 : Array Value, arr0.toList = (List.replicate len u.cells.toList).flatten → ∃ arr', Instr.fill (fun i => some (i * z.length, z.length)) arr0 (parts.toList.map fun x => (x.1, a.eval x.2)) = some arr' ∧ RelVL P w I ρ r arr'.toList := by
    intro arr0 h0
    refine fill_rel (ps := (List.range len).map fun i => (i * z.length, z.length)) (fun i x h => ?_) vs _ _ arr0 r hm hrel ?_ hr
    · simp [List.getElem?_map, Option.map_eq_some_iff] at h
      obtain ⟨a', ha, rfl⟩ := h
      rw [List.getElem?_range] at ha
      · simp at ha; subst ha; rfl
      · rcases Nat.lt_or_ge i len with h' | h'
        · exact h'
        · rw [List.getElem?_eq_none (by simpa using h')] at ha; cases ha
    · rw [h0]
      exact RelVL.pure.2 (RelL.repl h3 len)
  have hrl : r.length = len * z.length := by
    have gen : ∀ (vs : List (Nat × V)) (cs r : List V) (ps : List (Nat × Nat)), abuild ps cs vs = some r → r.length = cs.length := by
      intro vs
      induction vs with
      | nil => intro cs r ps h; simp [abuild] at h; rw [h]
      | cons x vs ih =>
        intro cs r ps h
        obtain ⟨i, v⟩ := x
        simp only [abuild] at h
        split at h
        · cases h
        · split at h
          · have := ih _ _ _ h; rw [this, setAt_length]
          · cases h
    rw [gen _ _ _ _ hr]
    simp
  have hnot : ¬ (len * z.length > 2 ^ 24) := by
    have : (2 : Nat) ^ 24 = 16777216 := by decide
    omega
  by_cases hl0 : len * z.length = 0
  · have hlen0 : len = 0 := by
      rcases Nat.mul_eq_zero.1 hl0 with h | h
      · exact h
      · omega
    subst hlen0
    obtain ⟨arr', h5, h6⟩ := hcells #[] (by simp)
    refine ⟨arr', h6, ?_, ?_⟩
    · have := RelVL.length h6; rw [hrl] at this; simpa using this
    · simp only [Instr.buildSlice, Sem.run_bind, run_underlying hu, Result.andThen, run_sizeOf' ht]
      simp [newRow, newObj, Sem.run]
      simp only [Array.size, List.map_map] at h5 ⊢
      rw [show (#[] : Array Value) = Array.map (fun (x : Nat) => (#[] : Array Value)[x % 0]!) (Array.range 0) by simp] at h5
      simp at h5
      simp [h5]
      rfl
  · obtain ⟨arr', h5, h6⟩ := hcells ((Array.range (len * z.length)).map (u.cells[· % u.cells.size]!)) (by
      have h7 : u.cells.size = z.length := by simpa using h4
      have := range_mod u.cells.toList (by rw [h4]; exact hz0) len
      rw [← this]
      simp only [Array.toList_map, Array.toList_range, Array.length_toList, h7]
      apply List.map_congr_left
      intro i _
      have hlt : i % z.length < u.cells.size := by rw [h7]; exact Nat.mod_lt _ hz0
      simp [hlt])
    refine ⟨arr', h6, ?_, ?_⟩
    · have := RelVL.length h6; rw [hrl] at this; simpa using this
    · have e1 : ((parts.map fun (x : Nat × Operand) => (x.1, a.eval x.2)).toList) = parts.toList.map fun x => (x.1, a.eval x.2) := by simp
      simp only [Instr.buildSlice, Sem.run_bind, run_underlying hu, Result.andThen, run_sizeOf' ht]
      rw [if_neg (by simpa using hnot)]
      simp only [Sem.run_pure, Result.andThen, hl0, if_false, Sem.run_bind, h1, e1, h5]
      simp [newRow, newObj, Sem.run]
end
end Go.AF
