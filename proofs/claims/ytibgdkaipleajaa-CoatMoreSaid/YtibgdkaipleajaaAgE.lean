/-
  An own slice that grew in the caller's place moves to a place of the function's own. No condition; generic over any program.
-/
import Derived.Test.YtibgdkaipleajaaAgD
section
set_option linter.unusedVariables false
set_option linter.unusedSimpArgs false
namespace Go.AF
open Go
section
variable {P : Program} {N κ : Nat} {T : Tm} {H : List Blk}
theorem set_self {l : List Blk} {i : Nat} {x : Blk} (h : l[i]? = some x) : l.set i x = l := by
  apply List.ext_getElem?
  intro j
  rw [List.getElem?_set]
  split
  · rename_i hij
    subst hij
    split
    · exact h.symm
    · rename_i h2; rw [List.getElem?_eq_none (by omega)]
  · rfl
theorem To.mvAcc (s i n : Nat) {cs : List V} {e : TypeId} (hs : lk T s = some (accV i n)) (hH : H[i]? = some (accB cs e n)) : To P κ N T H ((s, accV H.length n) :: dropT [s] T) (H.set i .dead ++ [accB cs e n]) := by
  cases n with
  | zero =>
    rw [set_self (show H[i]? = some Blk.dead from hH)]
    refine To.pad.trans (To.sub ?_)
    intro s' v hv
    simp only [lk] at hv
    cases hb : Nat.beq s s' with
    | false => rw [hb] at hv; exact lk_dropT [s] T s' v hv
    | true =>
      rw [hb] at hv
      have := Nat.eq_of_beq_eq_true hb
      subst this
      rw [hs]
      exact hv
  | succ n =>
    intro w I ρ tmps hi ht
    have hil : i < H.length := (List.getElem?_eq_some_iff.1 hH).1
    obtain ⟨b, hb⟩ : ∃ b, ρ[i]? = some b := ⟨ρ[i]'(by rw [hi.len]; exact hil), List.getElem?_eq_getElem _⟩
    have hbm : b ∈ ρ := List.mem_of_getElem? hb
    have hE : Ext w I ρ w I (ρ ++ [b]) := ⟨⟨rfl, rfl, rfl, Nat.le_refl _, fun _ _ _ => rfl, fun _ _ h => h, fun _ h => h, fun _ _ => rfl, fun _ h => .inl h, fun _ h => h, fun _ _ h => h, fun k hk => by
      rcases List.mem_append.1 hk with h | h
      · exact .inl h
      · simp at h; subst h; exact .inl hbm⟩, ⟨_, rfl⟩⟩
    have old : ∀ (j k : Nat) (blk : Blk), (ρ ++ [b])[j]? = some k → (H.set i .dead ++ [accB cs e (n + 1)])[j]? = some blk → blk.live = true → (j < H.length ∧ j ≠ i ∧ ρ[j]? = some k ∧ H[j]? = some blk) ∨ (j = H.length ∧ k = b ∧ blk = accB cs e (n + 1)) := fun j k blk h1 h2 h3 => by
      rcases get_append_one h2 with ⟨h4, h5⟩ | ⟨h4, h5⟩
      · rw [List.length_set] at h4
        rw [List.getElem?_append_left (by rw [hi.len]; exact h4)] at h1
        rw [List.getElem?_set] at h5
        split at h5
        · cases h5; cases h3
        · rename_i hne
          exact .inl ⟨h4, fun hh => hne hh.symm, h1, h5⟩
      · rw [List.length_set] at h4
        rw [List.getElem?_append_right (by rw [hi.len]; omega), hi.len, h4] at h1
        simp at h1
        exact .inr ⟨h4, h1.symm, h5⟩
    have one : ∀ (j k : Nat) (blk : Blk), (ρ ++ [b])[j]? = some k → (H.set i .dead ++ [accB cs e (n + 1)])[j]? = some blk → blk.live = true → ∃ q, ρ[q]? = some k ∧ H[q]? = some blk := fun j k blk h1 h2 h3 => by
      rcases old j k blk h1 h2 h3 with ⟨_, _, h4, h5⟩ | ⟨_, rfl, rfl⟩
      · exact ⟨j, h4, h5⟩
      · exact ⟨i, hb, hH⟩
    refine ⟨I, ρ ++ [b], hE.w, ⟨by simp [hi.len], fun j k blk h1 h2 h3 => ?_, hi.ib, fun j k blk h1 h2 h3 => ?_, fun j j' k x y h1 h2 h3 h4 h5 h6 => ?_, fun j k blk h1 h2 => ?_, hi.gl⟩, ?_, fun L hL _ => hL.trans ⟨_, rfl⟩⟩
    · obtain ⟨q, h4, h5⟩ := one j k blk h1 h2 h3
      exact hi.bnd q k blk h4 h5 h3
    · obtain ⟨q, h4, h5⟩ := one j k blk h1 h2 h3
      exact hi.live q k blk h4 h5 h3
    · rcases old j k x h1 h3 h5 with ⟨a1, a2, a3, a4⟩ | ⟨a1, a2, a3⟩ <;> rcases old j' k y h2 h4 h6 with ⟨b1, b2, b3, b4⟩ | ⟨b1, b2, b3⟩
      · exact hi.dist j j' k x y a3 b3 a4 b4 h5 h6
      · exact absurd (hi.dist j i k x _ a3 (by rw [b2]; exact hb) a4 hH h5 rfl) a2
      · exact absurd (hi.dist j' i k y _ b3 (by rw [a2]; exact hb) b4 hH h6 rfl) b2
      · omega
    · cases hl : blk.live with
      | false => exact RelB.dead_of hl
      | true =>
        obtain ⟨q, h4, h5⟩ := one j k blk h1 h2 hl
        exact RelB.ext hE hi h4 h5 rfl
    · have ht2 := ht.ext hE
      refine ⟨ht2.size, fun s' v hv => ?_⟩
      simp only [lk] at hv
      cases hbq : Nat.beq s s' with
      | false => rw [hbq] at hv; exact ht2.at_ s' v (lk_dropT [s] T s' v hv)
      | true =>
        rw [hbq] at hv
        have := Nat.eq_of_beq_eq_true hbq
        subst this
        simp at hv
        subst hv
        have h1 : ∃ q el cap, ρ[i]? = some q ∧ tmps.getD s undef = .slice (some ⟨q, 0, none⟩) (n + 1) cap ∧ w.shape? q = some (el, cap * P.cellsOf el) ∧ n + 1 ≤ cap := ht.at_ s _ hs
        obtain ⟨q, el, cap, g1, g2, g3, g4⟩ := h1
        rw [hb] at g1
        cases g1
        refine ⟨b, el, cap, ?_, g2, g3, g4⟩
        rw [← hi.len, List.getElem?_append_right (Nat.le_refl _), Nat.sub_self]
        rfl
theorem relPure {w : World} {I : Nat → Prop} {ρ σ : List Nat} : ∀ (a : List PV) (us : List Value), RelVL P w I ρ (a.map .p) us → RelVL P w I σ (a.map .p) us := fun a us h => RelVL.pure.2 (RelVL.pure.1 h)
theorem relAcc {w : World} {I : Nat → Prop} {ρ σ : List Nat} {i n : Nat} (h0 : 0 < n → ∀ b, ρ[i]? = some b → σ[0]? = some b) : ∀ (a b : List PV) (us : List Value), RelVL P w I ρ (a.map .p ++ accV i n :: b.map .p) us → RelVL P w I σ (a.map .p ++ accV 0 n :: b.map .p) us
  | [], b, us, h => by
    obtain ⟨u, us', rfl, h1, h2⟩ := h
    refine ⟨u, us', rfl, ?_, relPure b us' h2⟩
    cases n with
    | zero => exact h1
    | succ n =>
      obtain ⟨q, el, cap, g1, g2, g3, g4⟩ := h1
      exact ⟨q, el, cap, h0 (Nat.succ_pos _) q g1, g2, g3, g4⟩
  | x :: a, b, us, h => by
    obtain ⟨u, us', rfl, h1, h2⟩ := h
    exact ⟨u, us', rfl, h1, relAcc h0 a b us' h2⟩
/-- A call that appends to an own slice of its caller's, which it hands back. -/
theorem AList.callAcc {R : Option Nat} {Q : Post} {o : Oper} (d i : Nat) {ops : Array Oper} {rest : List Oper} {f : Operand} {xs : Array Operand} {ts : Array TypeId} {fv : V} {vs : List V} {g : FuncId} {a b : List PV} {cs cs2 : List V} {e e2 : TypeId} {n m : Nat} (hp : ACalls P g (a.map .p ++ accV 0 n :: b.map .p) [accB cs e n] (fun v H' => v = accV 1 m ∧ H' = [.dead, accB cs2 e2 m])) (hH : H[i]? = some (accB cs e n)) (hp1 : allP cs ≠ none) (hp2 : allP cs2 ≠ none) (ho : o.op = .call { callee := .value f, args := xs, argTypes := ts }) (hd : o.dst = some d) (hN : dstOk N (some d) = true) (hgd : o.guard = none) (hf : ev T f = some fv)
    (hxs : evs T xs.toList = some vs) (hc : callee vs fv = some (g, a.map .p ++ accV i n :: b.map .p)) (hg : realFn P g = true) (next : AList P R N κ ops rest Q ((d, accV H.length m) :: T) (H.set i .dead ++ [accB cs2 e2 m])) : AList P R N κ ops (o :: rest) Q T H := by
  intro QX B w I ρ tm hi ht hm hq
  refine wpListIn_plain hgd fun K hK => ?_
  refine ⟨about_wide, ?_⟩
  rw [semAt_plain _ _ _ (by simp [ho])]
  obtain ⟨us, h1, h2⟩ := run_callOp ho ht hf hxs hc hg
  rw [h2]
  refine ⟨(fun h => by cases h), ?_⟩
  have hil : i < H.length := (List.getElem?_eq_some_iff.1 hH).1
  obtain ⟨q, hq0⟩ : ∃ q, ρ[i]? = some q := ⟨ρ[i]'(by rw [hi.len]; exact hil), List.getElem?_eq_getElem _⟩
  obtain ⟨x, hx⟩ : ∃ x, x = if 0 < n then q else w.heap.size := ⟨_, rfl⟩
  have pure1 : ∃ ps, cs = List.map V.p ps := by
    cases h : allP cs with
    | none => exact absurd h hp1
    | some ps => exact ⟨ps, allP_some h⟩
  have pure2 : ∃ ps, cs2 = List.map V.p ps := by
    cases h : allP cs2 with
    | none => exact absurd h hp2
    | some ps => exact ⟨ps, allP_some h⟩
  obtain ⟨ps, rfl⟩ := pure1
  obtain ⟨ps2, rfl⟩ := pure2
  have hlv : 0 < n → (accB (ps.map .p) e n).live = true := fun h => by rw [accB_pos h]; rfl
  have hqx : 0 < n → x = q := fun h => by rw [hx, if_pos h]
  have hxs2 : ¬ 0 < n → x = w.heap.size := fun h => by rw [hx, if_neg h]
  have hsub : Inv P w I [x] [accB (ps.map .p) e n] := by
    have hz : ∀ (j k : Nat) (blk : Blk), [x][j]? = some k → [accB (ps.map V.p) e n][j]? = some blk → blk.live = true → k = q ∧ blk = accB (ps.map V.p) e n ∧ 0 < n := fun j k blk g1 g2 g3 => by
      cases j with
      | zero =>
        cases g1
        cases g2
        by_cases h0 : 0 < n
        · exact ⟨hqx h0, rfl, h0⟩
        · rw [show n = 0 by omega] at g3; cases g3
      | succ j => simp at g1
    refine ⟨rfl, fun j k blk g1 g2 g3 => ?_, hi.ib, fun j k blk g1 g2 g3 => ?_, fun j j' k y z g1 g2 g3 g4 g5 g6 => ?_, fun j k blk g1 g2 => ?_, hi.gl⟩
    · obtain ⟨rfl, rfl, h0⟩ := hz j k blk g1 g2 g3
      exact hi.bnd i k _ hq0 hH g3
    · obtain ⟨rfl, rfl, h0⟩ := hz j k blk g1 g2 g3
      exact hi.live i k _ hq0 hH g3
    · have : j = 0 := by cases j with | zero => rfl | succ j => simp at g1
      have : j' = 0 := by cases j' with | zero => rfl | succ j' => simp at g2
      omega
    · cases hl : blk.live with
      | false => exact RelB.dead_of hl
      | true =>
        obtain ⟨rfl, rfl, h0⟩ := hz j k blk g1 g2 hl
        have h3 := hi.rel i k _ hq0 hH
        rw [accB_pos h0] at h3 ⊢
        obtain ⟨arr, k1, k2, k3⟩ := h3
        exact ⟨arr, k1, k2, relPure _ _ k3⟩
  have hargs : RelVL P w I [x] (a.map .p ++ accV 0 n :: b.map .p) us := relAcc (fun h0 k hk => by rw [hq0] at hk; cases hk; rw [hqx h0]; rfl) a b us h1
  refine CallsIn.mono (callsIn_fr R (hp w I _ us hsub hargs)) ?_
  rintro e' w' ⟨u, v', J, σ, H2, rfl, ⟨rfl, rfl⟩, h3, h4, h5⟩
  obtain ⟨y, rfl⟩ : ∃ y, σ = [x, y] := by
    obtain ⟨t, ht2⟩ := h3.pre
    have hl := h4.len
    rw [← ht2] at hl ⊢
    match t, hl with
    | [y], _ => exact ⟨y, rfl⟩
  have hy : y = x ∨ w.heap.size ≤ y := by
    rcases h3.w.new y (by simp) with h | h
    · left; simpa using h
    · exact .inr h
  have hyn : (y ∈ ρ ∧ 0 < n ∧ y = q) ∨ w.heap.size ≤ y := by
    rcases hy with h | h
    · by_cases h0 : 0 < n
      · left; rw [h, hqx h0]; exact ⟨List.mem_of_getElem? hq0, h0, rfl⟩
      · right; rw [h, hxs2 h0]; exact Nat.le_refl _
    · exact .inr h
  have hxm : ∀ k, k ∈ [x] → k ∈ ρ ∨ w.heap.size ≤ k := fun k hk => by
    have hk : k = x := by simpa using hk
    by_cases h0 : 0 < n
    · left; rw [hk, hqx h0]; exact List.mem_of_getElem? hq0
    · right; rw [hk, hxs2 h0]; exact Nat.le_refl _
  have hE : Ext w I ρ w' J (ρ ++ [y]) := ⟨⟨h3.w.os, h3.w.tape, h3.w.output, h3.w.size, fun k g1 g2 => h3.w.keep k g1 fun h => by
      rcases hxm k h with h | h
      · exact g2 h
      · omega, h3.w.shape, h3.w.imm, h3.w.immKeep, fun k h => by
      rcases h3.w.immNew k h with h | h | h
      · exact .inl h
      · rcases hxm k h with h | h
        · exact .inr (.inl h)
        · exact .inr (.inr h)
      · exact .inr (.inr h), h3.w.defKeep, h3.w.defI, fun k h => by
      rcases List.mem_append.1 h with h | h
      · exact .inl h
      · have h : k = y := by simpa using h
        subst h
        rcases hyn with ⟨h, _⟩ | h
        · exact .inl h
        · exact .inr h⟩, ⟨_, rfl⟩⟩
  -- a live block at another place is neither at x nor at y
  have hout : ∀ (j k : Nat) (blk : Blk), j ≠ i → ρ[j]? = some k → H[j]? = some blk → blk.live = true → k ≠ x ∧ k ≠ y := fun j k blk g0 g1 g2 g3 => by
    have hb := hi.bnd j k blk g1 g2 g3
    have hkx : k ≠ x := fun h => by
      by_cases h0 : 0 < n
      · rw [hqx h0] at h
        subst h
        exact g0 (hi.dist j i k blk _ g1 hq0 g2 hH g3 (hlv h0))
      · rw [hxs2 h0] at h; omega
    refine ⟨hkx, fun h => ?_⟩
    rcases hy with h2 | h2
    · exact hkx (h.trans h2)
    · omega
  have old : ∀ (j k : Nat) (blk : Blk), (ρ ++ [y])[j]? = some k → (H.set i .dead ++ [accB (ps2.map V.p) e2 m])[j]? = some blk → blk.live = true → (j ≠ i ∧ ρ[j]? = some k ∧ H[j]? = some blk) ∨ (j = H.length ∧ k = y ∧ blk = accB (ps2.map V.p) e2 m) := fun j k blk g1 g2 g3 => by
    rcases get_append_one g2 with ⟨g4, g5⟩ | ⟨g4, g5⟩
    · rw [List.length_set] at g4
      rw [List.getElem?_append_left (by rw [hi.len]; exact g4)] at g1
      rw [List.getElem?_set] at g5
      split at g5
      · cases g5; cases g3
      · rename_i hne
        exact .inl ⟨fun hh => hne hh.symm, g1, g5⟩
    · rw [List.length_set] at g4
      rw [List.getElem?_append_right (by rw [hi.len]; omega), hi.len, g4] at g1
      simp at g1
      exact .inr ⟨g4, g1.symm, g5⟩
  have hI : Inv P w' J (ρ ++ [y]) (H.set i .dead ++ [accB (ps2.map .p) e2 m]) := by
    refine ⟨by simp [hi.len], fun j k blk g1 g2 g3 => ?_, h4.ib, fun j k blk g1 g2 g3 => ?_, fun j j' k z z' g1 g2 g3 g4 g5 g6 => ?_, fun j k blk g1 g2 => ?_, h4.gl⟩
    · rcases old j k blk g1 g2 g3 with ⟨k0, k1, k2⟩ | ⟨_, rfl, rfl⟩
      · exact Nat.lt_of_lt_of_le (hi.bnd j k blk k1 k2 g3) h3.w.size
      · exact h4.bnd 1 k _ rfl rfl g3
    · rcases old j k blk g1 g2 g3 with ⟨k0, k1, k2⟩ | ⟨_, rfl, rfl⟩
      · intro hJ
        rcases h3.w.immNew k hJ with h | h | h
        · exact hi.live j k blk k1 k2 g3 h
        · exact (hout j k blk k0 k1 k2 g3).1 (by simpa using h)
        · have := hi.bnd j k blk k1 k2 g3; omega
      · exact h4.live 1 k _ rfl rfl g3
    · rcases old j k z g1 g3 g5 with ⟨k0, k1, k2⟩ | ⟨k0, k1, k2⟩ <;> rcases old j' k z' g2 g4 g6 with ⟨m0, m1, m2⟩ | ⟨m0, m1, m2⟩
      · exact hi.dist j j' k z z' k1 m1 k2 m2 g5 g6
      · exact absurd m1 (hout j k z k0 k1 k2 g5).2
      · exact absurd k1 (hout j' k z' m0 m1 m2 g6).2
      · omega
    · cases hl : blk.live with
      | false => exact RelB.dead_of hl
      | true =>
        rcases old j k blk g1 g2 hl with ⟨k0, k1, k2⟩ | ⟨_, rfl, rfl⟩
        · exact RelB.mono h3.w.imm h3.w.immKeep ⟨_, rfl⟩ (fun b _ s hs => h3.w.shape b s hs) (h3.w.keep k (hi.bnd j k blk k1 k2 hl) (by simpa using (hout j k blk k0 k1 k2 hl).1)) (hi.rel j k blk k1 k2)
        · have h6 := h4.rel 1 k _ rfl rfl
          by_cases h0 : 0 < m
          · rw [accB_pos h0] at h6 ⊢
            obtain ⟨arr, k1, k2, k3⟩ := h6
            exact ⟨arr, k1, k2, relPure _ _ k3⟩
          · rw [show m = 0 by omega]; trivial
  have hr : RelV P w' J (ρ ++ [y]) (accV H.length m) u := by
    cases m with
    | zero => exact h5
    | succ m =>
      obtain ⟨q2, el, cap, g1, g2, g3, g4⟩ := h5
      cases g1
      refine ⟨_, el, cap, ?_, g2, g3, g4⟩
      rw [← hi.len, List.getElem?_append_right (Nat.le_refl _), Nat.sub_self]
      rfl
  refine hK _ _ ?_
  refine next QX B w' J _ (tm.put o.dst u) hI (by rw [hd]; exact (ht.ext hE).put hN hr) ((hm.ext hE).put) fun e a2 w2 q => hq e a2 w2 (QC.ext hE.w q)
end
end Go.AF
namespace Go.AF
open Go
section
variable {P : Program} {N κ : Nat} {T : Tm} {H : List Blk} {o : Oper}
/-- A call that hands back a tuple: a new own slice that is not empty, and scalars. -/
theorem OpJ.callTupR {g : FuncId} {args ys cs : List PV} {n : Nat} {e : TypeId} (hn : 0 < n) (hp : ACalls P g (args.map .p) [] fun v H' => v = tupOf (accV 0 n :: ys.map .p) ∧ H' = [accB (cs.map .p) e n]) (hr : scL cs = true) (hy : scL ys = true) {f : Operand} {xs : Array Operand} {ts : Array TypeId} {fv : V} {vs : List V} (ho : o.op = .call { callee := .value f, args := xs, argTypes := ts }) (hf : ev T f = some fv)
    (hxs : evs T xs.toList = some vs) (hc : callee vs fv = some (g, args.map .p)) (hg : realFn P g = true) : OpJ P N o T H (.tuple (.row H.length n :: ys.map .p)) (H ++ [.row (cs.map .p) e]) := by
  have h := OpJ.callTup (N := N) (T := T) (H := H) hp hr hy ho hf hxs hc hg
  rw [accV_pos hn, accB_pos hn] at h
  exact h
end
end Go.AF
end
