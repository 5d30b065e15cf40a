/-
  A call whose result is a tuple with a new own slice; own slices that may be empty are copied and written. No condition; generic over any program.
-/
import Derived.Test.YtofenmailjdehaaDoorAfO
set_option linter.unusedVariables false
namespace Go.AF
theorem atup_tupOf (vs : List V) (k : Nat) : atup k (tupOf vs) = vs[k]? := by
  unfold tupOf
  cases h : allP vs with
  | some xs =>
    rw [allP_some h]
    show (xs[k]?).map V.p = _
    rw [List.getElem?_map]
  | none => rfl
theorem asrc_acc {H : List Blk} {i n sz : Nat} {xs : List PV} {e : TypeId} (h : H[i]? = some (accB (xs.map .p) e n)) (hl : xs.length = n * sz) : asrc H sz (accV i n) = some (xs.map .p, n) := by
  cases n with
  | zero =>
    have : xs = [] := List.eq_nil_of_length_eq_zero (by simpa using hl)
    subst this
    rfl
  | succ n => exact asrc_row (by rw [h]; rfl) (by rw [List.length_map]; exact hl)
theorem alen_acc (i : Nat) : ∀ n, alen (accV i n) = some n
  | 0 => rfl
  | n + 1 => rfl
section
variable {P : Program} {N κ : Nat} {T : Tm} {H : List Blk} {o : Oper}
theorem OpJ.extractT {x : Operand} {k : Nat} {vs : List V} {v : V} (ho : o.op = .extract x k) (hx : ev T x = some (tupOf vs)) (hk : vs[k]? = some v) : OpJ P N o T H v H :=
  OpJ.extract ho hx (by rw [atup_tupOf]; exact hk)
theorem OpJ.indexAcc {x y : Operand} {t : TypeId} {kd : IntKind} {sz i n k : Nat} (ho : o.op = .indexAddr t x y) (hx : ev T x = some (accV i n)) (hy : ev T y = some (.p (.int kd (k : Int)))) (ht : isSl P t = true) (he : elI P t = some sz) (hk : k < n) : OpJ P N o T H (.ptr i (k * sz)) H :=
  OpJ.indexRow ho (by rw [hx, accV_pos (by omega)]) hy ht he hk
/-- A call that hands back a tuple: a new own slice, which may be empty, and scalars. -/
theorem OpJ.callTup {g : FuncId} {args ys cs : List PV} {n : Nat} {e : TypeId} (hp : ACalls P g (args.map .p) [] fun v H' => v = tupOf (accV 0 n :: ys.map .p) ∧ H' = [accB (cs.map .p) e n]) (hr : scL cs = true) (hy : scL ys = true) {f : Operand} {xs : Array Operand} {ts : Array TypeId} {fv : V} {vs : List V} (ho : o.op = .call { callee := .value f, args := xs, argTypes := ts }) (hf : ev T f = some fv)
    (hxs : evs T xs.toList = some vs) (hc : callee vs fv = some (g, args.map .p)) (hg : realFn P g = true) : OpJ P N o T H (tupOf (accV H.length n :: ys.map .p)) (H ++ [accB (cs.map .p) e n]) := by
  intro R w I ρ a hi hT K QX hK
  refine ⟨about_wide, ?_⟩
  rw [semAt_plain _ _ _ (by simp [ho])]
  obtain ⟨us, h1, h2⟩ := run_callOp ho hT hf hxs hc hg
  rw [h2]
  have h1' : RelVL P w (fun b => b < w.heap.size) [] (args.map .p) us := RelVL.pure.2 (RelL.mono (fun b h => hi.ib b h) (fun _ _ => rfl) args us (RelVL.pure.1 h1))
  have hi2 : Inv P w (fun b => b < w.heap.size) [] [] := ⟨rfl, (fun _ _ _ h => by simp at h), fun _ h => h, (fun _ _ _ h => by simp at h), (fun _ _ _ _ _ h => by simp at h), (fun _ _ _ h => by simp at h), hi.gl.mono hi.ib (fun _ _ => rfl)⟩
  refine ⟨(fun h => by cases h), ?_⟩
  refine CallsIn.mono (callsIn_fr R (hp w _ [] us hi2 h1')) ?_
  rintro e' w' ⟨u, v, J, σ, H', rfl, ⟨rfl, rfl⟩, h3, h4, h5⟩
  obtain ⟨b, rfl⟩ : ∃ b, σ = [b] := by
    have := h4.len
    match σ, this with
    | [x], _ => exact ⟨x, rfl⟩
  have hnew : w.heap.size ≤ b := by
    rcases h3.w.new b (by simp) with h | h
    · cases h
    · exact h
  have he := ext_back hi h3
  have hi3 : Inv P w' I [] [] := ⟨rfl, (fun _ _ _ h => by simp at h), fun b h => Nat.lt_of_lt_of_le (hi.ib b h) h3.w.size, (fun _ _ _ h => by simp at h), (fun _ _ _ _ _ h => by simp at h), (fun _ _ _ h => by simp at h), hi.gl.mono (fun _ h => h) he.w.immKeep⟩
  obtain ⟨h6, h7⟩ := Inv.frame hi he hi3
  obtain ⟨B, hB⟩ : ∃ B, B = accB (cs.map V.p) e n := ⟨_, rfl⟩
  rw [← hB] at h4 hK
  have hb2 : B.live = true → b < w'.heap.size := fun hl => h4.bnd 0 b _ rfl rfl hl
  have hE : Ext w I ρ w' I (ρ ++ [b]) := ⟨⟨h6.w.os, h6.w.tape, h6.w.output, h6.w.size, h6.w.keep, h6.w.shape, h6.w.imm, h6.w.immKeep, h6.w.immNew, h6.w.defKeep, h6.w.defI, fun x hx => by
    rcases List.mem_append.1 hx with h | h
    · exact .inl h
    · simp at h; subst h; exact .inr hnew⟩, ⟨_, rfl⟩⟩
  have rb : RelB P w' I (ρ ++ [b]) B b := by
    have k0 := h4.rel 0 b _ rfl rfl
    subst hB
    cases n with
    | zero => trivial
    | succ n =>
      obtain ⟨arr, k1, k2, k3⟩ := k0
      exact ⟨arr, k1, k2, RelVL.pure.2 (RelL.sc cs _ hr (RelVL.pure.1 k3))⟩
  have old : ∀ (j k : Nat) (blk : Blk), (ρ ++ [b])[j]? = some k → (H ++ [B])[j]? = some blk → (j < H.length ∧ ρ[j]? = some k ∧ H[j]? = some blk) ∨ (j = H.length ∧ k = b ∧ blk = B) := fun j k blk h1 h2 => by
    rcases get_append_one h2 with ⟨g1, g2⟩ | ⟨g1, g2⟩
    · rw [List.getElem?_append_left (by rw [hi.len]; exact g1)] at h1
      exact .inl ⟨g1, h1, g2⟩
    · rw [List.getElem?_append_right (by rw [hi.len]; omega)] at h1
      rw [hi.len, g1] at h1
      simp at h1
      exact .inr ⟨g1, h1.symm, g2⟩
  have hInv : Inv P w' I (ρ ++ [b]) (H ++ [B]) := by
    refine ⟨by simp [hi.len], fun j k blk g1 g2 g3 => ?_, h7.ib, fun j k blk g1 g2 g3 => ?_, fun j j' k x y g1 g2 g3 g4 g5 g6 => ?_, fun j k blk g1 g2 => ?_, h7.gl⟩
    · rcases old j k blk g1 g2 with ⟨_, a1, a2⟩ | ⟨_, rfl, rfl⟩
      · exact h7.bnd j k blk a1 a2 g3
      · exact hb2 g3
    · rcases old j k blk g1 g2 with ⟨_, a1, a2⟩ | ⟨_, rfl, _⟩
      · exact h7.live j k blk a1 a2 g3
      · intro h; have := hi.ib _ h; omega
    · rcases old j k x g1 g3 with ⟨_, a1, a2⟩ | ⟨a0, rfl, _⟩ <;> rcases old j' k y g2 g4 with ⟨_, b1, b2⟩ | ⟨b0, b1, _⟩
      · exact h7.dist j j' k x y a1 b1 a2 b2 g5 g6
      · subst b1; have := hi.bnd j _ x a1 a2 g5; omega
      · have := hi.bnd j' _ y b1 b2 g6; omega
      · omega
    · rcases old j k blk g1 g2 with ⟨_, a1, a2⟩ | ⟨_, rfl, rfl⟩
      · cases hlv : blk.live with
        | false => exact RelB.dead_of hlv
        | true => exact RelB.mono h6.w.imm h6.w.immKeep (List.prefix_append ρ [b]) (fun b _ s hs => h6.w.shape b s hs) (he.w.keep k (hi.bnd j k blk a1 a2 hlv) (by simp)) (hi.rel j k blk a1 a2)
      · exact rb
  refine hK u w' I (ρ ++ [b]) hE hInv ?_
  cases n with
  | zero =>
    have e0 : ∀ i, tupOf (accV i 0 :: ys.map V.p) = .p (.tuple (.nilSlice :: ys)) := fun i => by
      unfold tupOf
      rw [show allP (accV i 0 :: ys.map V.p) = some (.nilSlice :: ys) by simp [accV, allP, allP_map]]
    rw [e0] at h5 ⊢
    exact Rel.sc (.tuple (.nilSlice :: ys)) u (by simpa [scP, scL] using hy) h5
  | succ n =>
    have e0 : ∀ i, tupOf (accV i (n + 1) :: ys.map V.p) = .tuple (accV i (n + 1) :: ys.map V.p) := fun i => by
      unfold tupOf
      rw [show allP (accV i (n + 1) :: ys.map V.p) = none by simp [accV, allP]]
    rw [e0] at h5 ⊢
    obtain ⟨us2, hu, u0, us', hus, ⟨b', e2, cap, hσ, hu0, hsh, hl⟩, hrest⟩ := h5
    simp at hσ
    subst hσ
    exact ⟨us2, hu, u0, us', hus, ⟨b, e2, cap, by rw [List.getElem?_append_right (by rw [hi.len]; exact Nat.le_refl _)]; simp [hi.len], hu0, hsh, hl⟩, RelVL.pure.2 (RelL.sc ys _ hy (RelVL.pure.1 hrest))⟩
theorem OpJ.storeAcc {α : Type} {f : α → List PV} {c k j n m i off : Nat} {b : Bool} {xs : List α} {z : α} {ws : List PV} {e : TypeId} {x y : Operand} {t : TypeId} {v : V} (ho : o.op = .store t x y) (hx : ev T x = some (.ptr i off)) (hy : ev T y = some v) (hk : cellsOk v = true) (h1 : (cellsV v).all oneV = true)
    (ht : tyI P t = some (b, n)) (hn : (cellsV v).length = n) (hv : cellsV v = ws.map .p) (hH : H[i]? = some (accB ((xs.flatMap f).map .p) e m)) (hm : 0 < m) (hoff : off = k * c + j) (hf : ∀ x, (f x).length = c) (hkx : k < xs.length) (hj : j + ws.length ≤ c)
    (hz : f z = (f xs[k]).take j ++ ws ++ (f xs[k]).drop (j + ws.length)) : OpJ P N o T H .top (H.set i (accB (((xs.set k z).flatMap f).map .p) e m)) := by
  rw [accB_pos hm] at hH ⊢
  exact OpJ.storeRow ho hx hy hk h1 ht hn hv hH hoff hf hkx hj hz
end
end Go.AF
