/-
  Calls that read own blocks, as content. No condition; generic over any program.
-/
import Derived.Test.YtofenmailjdehaaDoorAfC
set_option linter.unusedVariables false
set_option linter.unusedSimpArgs false
set_option linter.unusedSectionVars false
namespace Go.AF

def mapO (f : V → Option PV) : List V → Option (List PV)
  | [] => some []
  | v :: vs => match f v, mapO f vs with
    | some x, some xs => some (x :: xs)
    | _, _ => none
/-- A value with its own blocks read as content. -/
def brwV (H : List Blk) : Nat → V → Option PV
  | _, .p x => some x
  | 0, _ => none
  | n + 1, .ptr i off => match blkCells H[i]? with
    | some cs => (mapO (brwV H n) cs).map (PV.ip · off)
    | none => none
  | n + 1, .row i len => match blkCells H[i]? with
    | some cs => (mapO (brwV H n) cs).map (PV.is · len)
    | none => none
  | n + 1, .sl i off len => match blkCells H[i]? with
    | some cs => (mapO (brwV H n) cs).map fun xs => PV.is (xs.drop off) len
    | none => none
  | n + 1, .map i => match H[i]? with
    | some (.map ks vs) => match mapO (brwV H n) ks, mapO (brwV H n) vs with
      | some xs, some ys => some (.im xs ys)
      | _, _ => none
    | _ => none
  | n + 1, .func fn fi ca => match mapO (brwV H n) fi, mapO (brwV H n) ca with
    | some xs, some ys => some (.func fn xs ys)
    | _, _ => none
  | n + 1, .iface t v => (brwV H n v).map (PV.iface t)
  | n + 1, .agg cs => (mapO (brwV H n) cs).map PV.agg
  | n + 1, .tuple cs => (mapO (brwV H n) cs).map PV.tuple
  | _ + 1, .opt _ _ => none
  | _ + 1, .top => none
theorem mapO_p (H : List Blk) (n : Nat) : ∀ xs : List PV, mapO (brwV H n) (xs.map .p) = some xs
  | [] => rfl
  | x :: xs => by
    have e : brwV H n (.p x) = some x := by cases n <;> rfl
    simp only [List.map_cons, mapO, e, mapO_p H n xs]

section
variable {P : Program} {R : Option Nat} {N κ : Nat} {Q Q' : Post} {T T' T2 T3 : Tm} {H H' H2 H3 : List Blk} {o : Oper} {ops : Array Oper} {rest : List Oper}

theorem mapO_rel {w : World} {I : Nat → Prop} {ρ : List Nat} {f : V → Option PV} (hf : ∀ v x u, f v = some x → RelV P w I ρ v u → Rel w (fun b => b < w.heap.size) x u) : ∀ (vs : List V) (xs : List PV) (us : List Value), mapO f vs = some xs → RelVL P w I ρ vs us → RelL w (fun b => b < w.heap.size) xs us
  | [], xs, us, h, hr => by simp [mapO] at h; subst h; exact hr
  | v :: vs, xs, us, h, hr => by
    obtain ⟨u, us', rfl, h1, h2⟩ := hr
    simp only [mapO] at h
    split at h
    · rename_i x ys e1 e2
      simp at h
      subst h
      exact ⟨u, us', rfl, hf v x u e1 h1, mapO_rel hf vs ys us' e2 h2⟩
    · cases h
theorem mapO_len {f : V → Option PV} : ∀ (vs : List V) (xs : List PV), mapO f vs = some xs → xs.length = vs.length
  | [], xs, h => by simp [mapO] at h; subst h; rfl
  | v :: vs, xs, h => by
    simp only [mapO] at h
    split at h
    · rename_i x ys e1 e2
      simp at h
      subst h
      simp [mapO_len vs ys e2]
    · cases h
theorem heap_lt {w : World} {b : Nat} {ob : Obj} (h : w.heap[b]? = some ob) : b < w.heap.size := by
  rcases Nat.lt_or_ge b w.heap.size with h1 | h1
  · exact h1
  · rw [Array.getElem?_eq_none h1] at h; cases h
theorem cells_at {w : World} {I : Nat → Prop} {ρ : List Nat} {i : Nat} {cs : List V} {xs : List PV} {f : V → Option PV} (hi : Inv P w I ρ H) (hf : ∀ v x u, f v = some x → RelV P w I ρ v u → Rel w (fun b => b < w.heap.size) x u)
    (hc : blkCells H[i]? = some cs) (hx : mapO f cs = some xs) : ∃ b, ρ[i]? = some b ∧ b < w.heap.size ∧ RelAt w (fun b => b < w.heap.size) xs b 0 := by
  obtain ⟨b, arr, e, hρ, hw, hl, hr⟩ := own_cells hi hc
  refine ⟨b, hρ, heap_lt hw, ?_⟩
  refine RelAt.of_list xs (arr.toList.take cs.length) 0 (mapO_rel hf cs xs _ hx hr) fun j v hj => ?_
  rw [List.getElem?_take] at hj
  split at hj
  · simp only [World.cell?, hw]
    simpa using hj
  · cases hj
theorem brwV_rel {w : World} {I : Nat → Prop} {ρ : List Nat} (hi : Inv P w I ρ H) : ∀ (n : Nat) (v : V) (x : PV) (u : Value), brwV H n v = some x → RelV P w I ρ v u → Rel w (fun b => b < w.heap.size) x u := by
  have pure_ : ∀ (x : PV) (u : Value), RelV P w I ρ (.p x) u → Rel w (fun b => b < w.heap.size) x u := fun x u h => Rel.mono (fun b hb => hi.ib b hb) (fun _ _ => rfl) x u h
  intro n
  induction n with
  | zero =>
    intro v x u h hr
    cases v <;> simp [brwV] at h
    subst h
    exact pure_ _ _ hr
  | succ n ih =>
    intro v x u h hr
    cases v with
    | p y => simp [brwV] at h; subst h; exact pure_ _ _ hr
    | ptr i off =>
      simp only [brwV] at h
      split at h
      · rename_i cs hc
        simp only [Option.map_eq_some_iff] at h
        obtain ⟨xs, h1, rfl⟩ := h
        obtain ⟨b, hρ, hb, hat⟩ := cells_at hi ih hc h1
        obtain ⟨b', hρ', hu⟩ := hr
        rw [hρ] at hρ'
        cases hρ'
        exact ⟨b, 0, hb, by simpa using hu, hat⟩
      · cases h
    | row i len =>
      simp only [brwV] at h
      split at h
      · rename_i cs hc
        simp only [Option.map_eq_some_iff] at h
        obtain ⟨xs, h1, rfl⟩ := h
        obtain ⟨b, hρ, hb, hat⟩ := cells_at hi ih hc h1
        obtain ⟨b', e, cap, hρ', hu, _, hl⟩ := hr
        rw [hρ] at hρ'
        cases hρ'
        exact .inr ⟨b, 0, cap, fun _ => hb, hl, hu, hat⟩
      · cases h
    | sl i off len =>
      simp only [brwV] at h
      split at h
      · rename_i cs hc
        simp only [Option.map_eq_some_iff] at h
        obtain ⟨xs, h1, rfl⟩ := h
        obtain ⟨b, hρ, hb, hat⟩ := cells_at hi ih hc h1
        obtain ⟨b', cap, hρ', hu, hl⟩ := hr
        rw [hρ] at hρ'
        cases hρ'
        refine .inr ⟨b, off, cap, fun _ => hb, hl, hu, ?_⟩
        have := hat.drop off
        simpa using this
      · cases h
    | map i =>
      simp only [brwV] at h
      split at h
      · rename_i ks vs hH
        split at h
        · rename_i xs ys h1 h2
          simp at h
          subst h
          obtain ⟨b, hρ, hu⟩ := hr
          obtain ⟨es, clock, k1, k2, k3, k4⟩ := hi.rel i b _ hρ hH
          exact ⟨b, es, clock, heap_lt k1, hu, k1, mapO_rel ih ks xs _ h1 k2, mapO_rel ih vs ys _ h2 k3, k4⟩
        · cases h
      · cases h
    | func fn fi ca =>
      simp only [brwV] at h
      split at h
      · rename_i xs ys h1 h2
        simp at h
        subst h
        obtain ⟨us, vs, hu, k1, k2⟩ := hr
        exact ⟨us, vs, hu, mapO_rel ih fi xs _ h1 k1, mapO_rel ih ca ys _ h2 k2⟩
      · cases h
    | iface t v =>
      simp only [brwV, Option.map_eq_some_iff] at h
      obtain ⟨y, h1, rfl⟩ := h
      obtain ⟨z, hu, k1⟩ := hr
      exact ⟨z, hu, ih v y z h1 k1⟩
    | agg cs =>
      simp only [brwV, Option.map_eq_some_iff] at h
      obtain ⟨xs, h1, rfl⟩ := h
      obtain ⟨us, hu, k1⟩ := hr
      exact ⟨us, hu, mapO_rel ih cs xs _ h1 k1⟩
    | tuple cs =>
      simp only [brwV, Option.map_eq_some_iff] at h
      obtain ⟨xs, h1, rfl⟩ := h
      obtain ⟨us, hu, k1⟩ := hr
      exact ⟨us, hu, mapO_rel ih cs xs _ h1 k1⟩
    | opt g v => simp [brwV] at h
    | top => simp [brwV] at h

/-! ### Data without references -/
mutual
def scP : PV → Bool
  | .bool _ | .int _ _ | .str _ | .nilPtr | .nilSlice | .nilMap | .nilFunc | .nilIface => true
  | .agg cs => scL cs
  | .tuple cs => scL cs
  | .iface _ v => scP v
  | .ip _ _ | .is _ _ | .im _ _ | .func _ _ _ => false
def scL : List PV → Bool
  | [] => true
  | x :: xs => scP x && scL xs
end
mutual
theorem Rel.sc {w w' : World} {I I' : Nat → Prop} : ∀ (x : PV) (u : Value), scP x = true → Rel w I x u → Rel w' I' x u
  | .bool _, _, _, h => h
  | .int _ _, _, _, h => h
  | .str _, _, _, h => h
  | .nilPtr, _, _, h => h
  | .nilSlice, _, _, h => h
  | .nilMap, _, _, h => h
  | .nilFunc, _, _, h => h
  | .nilIface, _, _, h => h
  | .agg cs, u, hs, h => by
    obtain ⟨us, hu, h1⟩ := h
    exact ⟨us, hu, RelL.sc cs _ (by simpa [scP] using hs) h1⟩
  | .tuple cs, u, hs, h => by
    obtain ⟨us, hu, h1⟩ := h
    exact ⟨us, hu, RelL.sc cs _ (by simpa [scP] using hs) h1⟩
  | .iface t v, u, hs, h => by
    obtain ⟨z, hu, h1⟩ := h
    exact ⟨z, hu, Rel.sc v z (by simpa [scP] using hs) h1⟩
  | .ip _ _, _, hs, _ => by simp [scP] at hs
  | .is _ _, _, hs, _ => by simp [scP] at hs
  | .im _ _, _, hs, _ => by simp [scP] at hs
  | .func _ _ _, _, hs, _ => by simp [scP] at hs
theorem RelL.sc {w w' : World} {I I' : Nat → Prop} : ∀ (xs : List PV) (us : List Value), scL xs = true → RelL w I xs us → RelL w' I' xs us
  | [], us, _, h => h
  | x :: xs, us, hs, h => by
    simp only [scL, Bool.and_eq_true] at hs
    obtain ⟨u, us', hu, h1, h2⟩ := h
    exact ⟨u, us', hu, Rel.sc x u hs.1 h1, RelL.sc xs us' hs.2 h2⟩
end
theorem ext_back {w w' : World} {I J : Nat → Prop} {ρ : List Nat} (hi : Inv P w I ρ H) {σ : List Nat} (h3 : Ext w (fun b => b < w.heap.size) [] w' J σ) : Ext w I [] w' I [] :=
  ⟨⟨h3.w.os, h3.w.tape, h3.w.output, h3.w.size, h3.w.keep, h3.w.shape, fun _ h => h, fun b h => h3.w.keep b (hi.ib b h) (by simp), fun _ h => .inl h, h3.w.defKeep, fun _ _ h => h, fun b h => by cases h⟩, List.prefix_refl _⟩
/-- A call of a pure function whose result has no reference in it: own blocks are read as content. -/
theorem OpJ.callB (n : Nat) {g : FuncId} {args : List PV} {r : PV} (hp : Pure P g args r) (hr : scP r = true) {f : Operand} {xs : Array Operand} {ts : Array TypeId} {fv : V} {vs all : List V} (ho : o.op = .call { callee := .value f, args := xs, argTypes := ts }) (hf : ev T f = some fv)
    (hxs : evs T xs.toList = some vs) (hc : callee vs fv = some (g, all)) (hb : mapO (brwV H n) all = some args) (hg : realFn P g = true) : OpJ P N o T H (.p r) H := by
  intro R w I ρ a hi hT K QX hK
  refine ⟨about_wide, ?_⟩
  rw [semAt_plain _ _ _ (by simp [ho])]
  obtain ⟨us, h1, h2⟩ := run_callOp ho hT hf hxs hc hg
  rw [h2]
  have h1' : RelVL P w (fun b => b < w.heap.size) [] (args.map .p) us := RelVL.pure.2 (mapO_rel (brwV_rel hi n) all args us hb h1)
  have hi2 : Inv P w (fun b => b < w.heap.size) [] [] := ⟨rfl, (fun _ _ _ h => by simp at h), fun _ h => h, (fun _ _ _ h => by simp at h), (fun _ _ _ _ _ h => by simp at h), (fun _ _ _ h => by simp at h), hi.gl.mono hi.ib (fun _ _ => rfl)⟩
  refine ⟨(fun h => by cases h), ?_⟩
  refine CallsIn.mono (callsIn_fr R (hp w _ [] us hi2 h1')) ?_
  rintro e w' ⟨u, v, J, σ, H', rfl, ⟨rfl, rfl⟩, h3, h4, h5⟩
  have he := ext_back hi h3
  have hi3 : Inv P w' I [] [] := ⟨rfl, (fun _ _ _ h => by simp at h), fun b h => Nat.lt_of_lt_of_le (hi.ib b h) h3.w.size, (fun _ _ _ h => by simp at h), (fun _ _ _ _ _ h => by simp at h), (fun _ _ _ h => by simp at h), hi.gl.mono (fun _ h => h) he.w.immKeep⟩
  obtain ⟨h6, h7⟩ := Inv.frame hi he hi3
  exact hK u w' I ρ h6 h7 (Rel.sc r u hr h5)
/-- A call that hands back a row of its own: own blocks are read as content. -/
theorem OpJ.callRow (n : Nat) {g : FuncId} {args cs : List PV} {len : Nat} {e : TypeId} (hp : ACalls P g (args.map .p) [] fun v H' => v = .row 0 len ∧ H' = [.row (cs.map .p) e]) (hr : scL cs = true) {f : Operand} {xs : Array Operand} {ts : Array TypeId} {fv : V} {vs all : List V} (ho : o.op = .call { callee := .value f, args := xs, argTypes := ts }) (hf : ev T f = some fv)
    (hxs : evs T xs.toList = some vs) (hc : callee vs fv = some (g, all)) (hb : mapO (brwV H n) all = some args) (hg : realFn P g = true) : OpJ P N o T H (.row H.length len) (H ++ [.row (cs.map .p) e]) := by
  intro R w I ρ a hi hT K QX hK
  refine ⟨about_wide, ?_⟩
  rw [semAt_plain _ _ _ (by simp [ho])]
  obtain ⟨us, h1, h2⟩ := run_callOp ho hT hf hxs hc hg
  rw [h2]
  have h1' : RelVL P w (fun b => b < w.heap.size) [] (args.map .p) us := RelVL.pure.2 (mapO_rel (brwV_rel hi n) all args us hb h1)
  have hi2 : Inv P w (fun b => b < w.heap.size) [] [] := ⟨rfl, (fun _ _ _ h => by simp at h), fun _ h => h, (fun _ _ _ h => by simp at h), (fun _ _ _ _ _ h => by simp at h), (fun _ _ _ h => by simp at h), hi.gl.mono hi.ib (fun _ _ => rfl)⟩
  refine ⟨(fun h => by cases h), ?_⟩
  refine CallsIn.mono (callsIn_fr R (hp w _ [] us hi2 h1')) ?_
  rintro e' w' ⟨u, v, J, σ, H', rfl, ⟨rfl, rfl⟩, h3, h4, h5⟩
  obtain ⟨b, e2, cap, hσ, hu, hsh, hl⟩ := h5
  have hσ1 : σ = [b] := by
    have := h4.len
    match σ, this, hσ with
    | [x], _, h => simp at h; rw [h]
  subst hσ1
  -- the new block is new
  have hnew : w.heap.size ≤ b := by
    rcases h3.w.new b (by simp) with h | h
    · cases h
    · exact h
  have he := ext_back hi h3
  have hi3 : Inv P w' I [] [] := ⟨rfl, (fun _ _ _ h => by simp at h), fun b h => Nat.lt_of_lt_of_le (hi.ib b h) h3.w.size, (fun _ _ _ h => by simp at h), (fun _ _ _ _ _ h => by simp at h), (fun _ _ _ h => by simp at h), hi.gl.mono (fun _ h => h) he.w.immKeep⟩
  obtain ⟨h6, h7⟩ := Inv.frame hi he hi3
  have hb2 : b < w'.heap.size := h4.bnd 0 b _ rfl rfl rfl
  have hE : Ext w I ρ w' I (ρ ++ [b]) := ⟨⟨h6.w.os, h6.w.tape, h6.w.output, h6.w.size, h6.w.keep, h6.w.shape, h6.w.imm, h6.w.immKeep, h6.w.immNew, h6.w.defKeep, h6.w.defI, fun x hx => by
    rcases List.mem_append.1 hx with h | h
    · exact .inl h
    · simp at h; subst h; exact .inr hnew⟩, ⟨_, rfl⟩⟩
  have rb : RelB P w' I (ρ ++ [b]) (.row (cs.map .p) e) b := by
    obtain ⟨arr, k1, k2, k3⟩ := h4.rel 0 b _ rfl rfl
    exact ⟨arr, k1, k2, RelVL.pure.2 (RelL.sc cs _ hr (RelVL.pure.1 k3))⟩
  have old : ∀ (j k : Nat) (blk : Blk), (ρ ++ [b])[j]? = some k → (H ++ [Blk.row (cs.map .p) e])[j]? = some blk → (j < H.length ∧ ρ[j]? = some k ∧ H[j]? = some blk) ∨ (j = H.length ∧ k = b ∧ blk = .row (cs.map .p) e) := fun j k blk h1 h2 => by
    rcases get_append_one h2 with ⟨g1, g2⟩ | ⟨g1, g2⟩
    · rw [List.getElem?_append_left (by rw [hi.len]; exact g1)] at h1
      exact .inl ⟨g1, h1, g2⟩
    · rw [List.getElem?_append_right (by rw [hi.len]; omega)] at h1
      rw [hi.len, g1] at h1
      simp at h1
      exact .inr ⟨g1, h1.symm, g2⟩
  have hInv : Inv P w' I (ρ ++ [b]) (H ++ [.row (cs.map .p) e]) := by
    refine ⟨by simp [hi.len], fun j k blk g1 g2 g3 => ?_, h7.ib, fun j k blk g1 g2 g3 => ?_, fun j j' k x y g1 g2 g3 g4 g5 g6 => ?_, fun j k blk g1 g2 => ?_, h7.gl⟩
    · rcases old j k blk g1 g2 with ⟨_, a1, a2⟩ | ⟨_, rfl, _⟩
      · exact h7.bnd j k blk a1 a2 g3
      · exact hb2
    · rcases old j k blk g1 g2 with ⟨_, a1, a2⟩ | ⟨_, rfl, _⟩
      · exact h7.live j k blk a1 a2 g3
      · intro h; have := hi.ib _ h; omega
    · rcases old j k x g1 g3 with ⟨_, a1, a2⟩ | ⟨a0, rfl, _⟩ <;> rcases old j' k y g2 g4 with ⟨_, b1, b2⟩ | ⟨b0, b1, _⟩
      · exact h7.dist j j' k x y a1 b1 a2 b2 g5 g6
      · subst b1; have := hi.bnd j _ x a1 a2 g5; omega
      · have := hi.bnd j' _ y b1 b2 g6; omega
      · omega
    · rcases old j k blk g1 g2 with ⟨_, a1, a2⟩ | ⟨_, rfl, rfl⟩
      · cases hlv : blk.live with
        | false => exact RelB.dead_of hlv
        | true => exact RelB.mono h6.w.imm h6.w.immKeep (List.prefix_append ρ [b]) (fun b _ s hs => h6.w.shape b s hs) (he.w.keep k (hi.bnd j k blk a1 a2 hlv) (by simp)) (hi.rel j k blk a1 a2)
      · exact rb
  exact hK u w' I (ρ ++ [b]) hE hInv ⟨b, e2, cap, by rw [List.getElem?_append_right (by rw [hi.len]; exact Nat.le_refl _)]; simp [hi.len], hu, hsh, hl⟩
/-- A list that is not empty is no nil slice. -/
theorem OpJ.eqNil {x y : Operand} {t t' e : TypeId} {cs z : List PV} {len : Nat} (ho : o.op = .binOp .eql t x y t') (hx : ev T x = some (.p (.is cs len))) (hy : ev T y = some (.p .nilSlice)) (hs : slI P t = some (e, z)) (h0 : 0 < len) : OpJ P N o T H (.p (.bool false)) H :=
  OpJ.of_pure (by simp [ho]) fun w I ρ ac hi hT => by
    have ht := (slI_some hs).1
    have e2 : RelV P w I ρ (.p .nilSlice) (ac.eval y) := hT.ev hy
    have e1 : RelV P w I ρ (.p (.is cs len)) (ac.eval x) := hT.ev hx
    have e2 : ac.eval y = .slice none 0 0 := e2
    rcases e1 with ⟨_, hl⟩ | ⟨b, o', cap, _, _, hu, _⟩
    · omega
    · have hb : (binOp .eql t (.slice (some ⟨b, o', none⟩) len cap) (.slice none 0 0)).run P w = .ok (.bool false) w := by
        simp only [binOp]
        have hq : (Op.equal t (.slice (some ⟨b, o', none⟩) len cap) (.slice none 0 0)).run P w = .ok false w := by
          show (Op.equalIn (9999 + 1) t (.slice (some ⟨b, o', none⟩) len cap) (.slice none 0 0)).run P w = .ok false w
          generalize 9999 = d
          simp [Op.equalIn, run_underlying ht]
        simp [hq]
      refine ⟨.bool false, ?_, by simp [RelV, Rel]⟩
      simp [execOp, ho, hu, e2, eqGuard, hb]
end
/-- A call of yield under a guard. -/
theorem AList.yieldG {P : Program} {R : Option Nat} {N κ : Nat} {Q : Post} {T : Tm} {H : List Blk} {o : Oper} {ops : Array Oper} {rest : List Oper} (d s : Nat) {j : Nat} {want c : Bool} {x : V} {l : Nat} {f : Operand} {xs : Array Operand} {ts : Array TypeId} {vs : List V} {Qb : Bool → List Blk → Prop} (ho : o.op = .call { callee := .value f, args := xs, argTypes := ts }) (hd : o.dst = some d) (hN : dstOk N (some d) = true)
    (hg : o.guard = some (j, want)) (hs : gslot ops j = some s) (hsN : dstOk N (some s) = true) (hb0 : lk T s = some x) (hc : gcond want x = some c) (T2 : Tm) (h2' : c = true → subG T2 T)
    (hf : ev T2 f = some (yieldV l)) (hxs : evs T2 xs.toList = some vs) (hb : c = true → BodyOk P l κ H vs Qb)
    (next : ∀ b h', (c = true → Qb b h') → (c = false → h' = H) → AList P R N κ ops rest Q ((d, .opt c (.p (.bool b))) :: pureT T) h') : AList P R N κ ops (o :: rest) Q T H := by
  intro QX B w I ρ a hi ht hm hq
  refine wpListIn_step fun K hK => ?_
  simp only [Region.wanted, hg, yielded_of hs ht hsN hb0 hc]
  cases c with
  | true =>
    simp only [if_true]
    refine ⟨about_wide, ?_⟩
    rw [semAt_plain _ _ _ (by simp [ho])]
    have ht2 := ht.subG (h2' rfl)
    have h1 := ht2.ev hf
    have h2 := ht2.evs hxs
    obtain ⟨us, vs', hu, h3, h4⟩ := h1
    simp only [RelL] at h3 h4
    have hus : us = #[] := by simpa using h3
    have hvs' : vs' = #[] := by simpa using h4
    subst hus hvs'
    obtain ⟨fn, tmps, asg, body, hy, hr⟩ := hb rfl B.pre w I ρ _ hi h2 hm.2.2.1 hm.2.1
    have e : (execOp a.eval o).run P w = .ok (.round l fn tmps asg body) w := by
      rw [← hy]
      simp [execOp, ho, resolve, hu, Deferred.ofValue, invoke, ← Array.toList_map]
    rw [e]
    refine ⟨(fun h => by cases h), RoundIn.mono (roundIn_fr _ hr) ?_⟩
    rintro e w' ⟨b, I', ρ', h', rfl, h5, h6, h7, h8⟩
    have hto := ht.pureT h6
    have hput : TRel P w' I' ρ' N (setT (pureT T) o.dst (.opt true (.p (.bool b)))) (a.put o.dst (.bool b)).tmps := TRel.put (by rw [hd]; exact hN) hto ⟨fun _ => by simp [RelV, Rel], fun h => by cases h⟩
    rw [hd] at hput
    refine hK _ _ ?_
    rw [hd]
    exact next b h' (fun _ => h5) (fun h => by cases h) QX B w' I' ρ' _ h7 hput (hm.extW h6 h8).put fun e a2 w2 q => hq e a2 w2 (QC.ext h6 q)
  | false =>
    simp only [Bool.false_eq_true, if_false]
    refine ⟨about_wide, hK _ _ ?_⟩
    have hto := ht.pureT (ExtW.refl w I ρ)
    have hput : TRel P w I ρ N (setT (pureT T) o.dst (.opt false (.p (.bool false)))) (a.put o.dst undef).tmps := TRel.put (by rw [hd]; exact hN) hto ⟨(fun h => by cases h), fun _ => rfl⟩
    rw [hd] at hput
    rw [hd]
    exact next false H (fun h => by cases h) (fun _ => rfl) QX B w I ρ _ hi hput hm.put hq
section
variable {P : Program} {R : Option Nat} {N κ : Nat} {Q : Post} {T : Tm} {H : List Blk}
theorem stepR_scope {b : Frame} {a : Act} {k : List Item} {cs : List Frame} {w : World} {c : Code} : step P (lone (b.atR a (.code (.scope c) :: k)) cs w) = .next (lone (b.atR a (.code c :: .inScope c :: k)) cs w) :=
  step_lone_go (by simp [stepG, stepG.exec, Frame.atR])
theorem stepR_inScope {b : Frame} {a : Act} {k : List Item} {cs : List Frame} {w : World} {c : Code} : step P (lone (b.atR a (.inScope c :: k)) cs w) = .next (lone (b.atR a k) cs w) :=
  step_lone_go (by simp [stepG, stepG.exec, Frame.atR])
/-- A label, and a scope that no goto runs through. -/
theorem AWp.label {l : Nat} (h : Q .normal T H) : AWp P R N κ (.label l) Q T H :=
  fun B w I ρ a hi ht hm => wpIn_label ⟨.normal, I, ρ, T, H, trivial, h, ExtW.refl _ _ _, hi, ht, hm⟩
theorem AWp.scope {c : Code} (h : AWp P R N κ c Q T H) : AWp P R N κ (.scope c) Q T H := by
  intro B w I ρ a hi ht hm b k cs hro hb hr
  have h0 : (lone (b.atR a (.code (.scope c) :: k)) cs w).fenced P (Fr R) := fenced_calm hb hr rfl
  obtain ⟨e, a₁, w₁, hq, harr⟩ := h B w I ρ a hi ht hm b (.inScope c :: k) cs hro hb hr
  cases e with
  | normal => exact ⟨.normal, a₁, w₁, hq, .head h0 stepR_scope (StepsIn.trans harr (.one (fenced_calm hb hr rfl) stepR_inScope))⟩
  | exit id => exact ⟨.exit id, a₁, w₁, hq, fun k' hk => .head h0 stepR_scope (harr.1 k' (by simp [exitTo, hk])), fun hr' hk => let ⟨k₁, h1, h2⟩ := harr.2 hr' (by simp [exitTo, hk]); ⟨k₁, h1, .head h0 stepR_scope h2⟩⟩
  | goto l =>
    obtain ⟨x, _, _, _, _, h1, _⟩ := hq
    cases x <;> exact h1.elim
  | ret => exact ⟨_, a₁, w₁, hq, .of_steps (.one h0 stepR_scope) harr⟩
  | panic ch => exact ⟨_, a₁, w₁, hq, .of_steps (.one h0 stepR_scope) harr⟩
  | outgrown => exact ⟨_, a₁, w₁, hq, .of_steps (.one h0 stepR_scope) harr⟩
end
end Go.AF
