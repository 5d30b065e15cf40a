/-
  Cells of own rows at places not known; an own row that is frozen where another own row refers to it. No condition; generic over any program.
-/
import Derived.Test.YtofenmailjdehaaDoorAfK
set_option linter.unusedVariables false
namespace Go.AF
section
variable {P : Program} {R : Option Nat} {N κ : Nat} {Q : Post} {T : Tm} {H H' : List Blk} {o : Oper}
theorem OpJ.loadCell {x : Operand} {t : TypeId} {n i off k : Nat} {v : V} {cs : List V} (ho : o.op = .load t x) (hx : ev T x = some (.ptr i off)) (ht : tyI P t = some (false, n)) (hc : blkCells H[i]? = some cs) (hoff : off = k) (hv : cs[k]? = some v) : OpJ P N o T H v H :=
  OpJ.load ho hx ht (by subst hoff; simp [aload, hc, hv])
theorem OpJ.storeCell {x y : Operand} {t : TypeId} {n i off k : Nat} {v : V} {cs : List V} {e : TypeId} (ho : o.op = .store t x y) (hx : ev T x = some (.ptr i off)) (hy : ev T y = some v) (hk : cellsOk v = true) (h1 : (cellsV v).all oneV = true) (hv : cellsV v = [v])
    (ht : tyI P t = some (false, n)) (hn : 1 = n) (hH : H[i]? = some (.row cs e)) (hoff : off = k) (hlt : k < cs.length) : OpJ P N o T H .top (H.set i (.row (cs.set k v) e)) := by
  subst hoff
  refine OpJ.store ho hx hy hk h1 ht (by rw [hv]; exact hn) ?_
  rw [hv]
  simp only [astore, hH, List.length_singleton]
  rw [if_pos (by omega)]
  rfl
theorem OpJ.max3 {x y z : Operand} {ts : Array TypeId} {k : IntKind} {a b c : Int} (ho : o.op = .call { callee := .builtin .max, args := #[x, y, z], argTypes := ts }) (hx : ev T x = some (.p (.int k a))) (hy : ev T y = some (.p (.int k b))) (hz : ev T z = some (.p (.int k c))) : OpJ P N o T H (.p (.int k (max (max a b) c))) H :=
  OpJ.of_pure (by simp [ho]) fun w I ρ ac hi hT => by
    refine ⟨.int k (if c > (if b > a then b else a) then c else (if b > a then b else a)), ?_, ?_⟩
    · simp [execOp, ho, resolve, Go.invoke, Go.builtin, Builtin.max_, Builtin.max2, ev_int hT hx, ev_int hT hy, ev_int hT hz]
    simp only [RelV, Rel, Value.int.injEq, true_and]
    split <;> split <;> omega
theorem OpJ.indexGI {α : Type} {g : Nat → α} {x y : Operand} {t : TypeId} {kd : IntKind} {sz len : Nat} {n : Int} {xs : List α} {f : α → List PV} (hg : ∀ k (h : k < xs.length), xs[k] = g k) (ho : o.op = .indexAddr t x y) (hx : ev T x = some (.p (.is (xs.flatMap f) len))) (hy : ev T y = some (.p (.int kd n))) (ht : isSl P t = true)
    (he : elI P t = some sz) (hl : len = xs.length) (hf : ∀ x, (f x).length = sz) (h0 : 0 < sz) (hn : 0 ≤ n) (hk : n.toNat < xs.length) : OpJ P N o T H (.p (.ip (f (g n.toNat)) 0)) H := by
  have h := OpJ.indexElI (P := P) (N := N) (H := H) ho hx hy ht he hl hf h0 hn hk
  rwa [hg _ hk] at h
theorem frzL_pure {i : Nat} {xs : List PV} : ∀ l : List PV, frzL i xs (l.map .p) = l.map .p
  | [] => rfl
  | x :: l => by simp [frzL, frzV, frzL_pure l]
theorem frzL_set {i : Nat} {xs : List PV} : ∀ (l : List V) (k : Nat) (v : V), frzL i xs (l.set k v) = (frzL i xs l).set k (frzV i xs v)
  | [], _, _ => rfl
  | x :: l, 0, v => rfl
  | x :: l, k + 1, v => by simp only [List.set_cons_succ, frzL, frzL_set l k v]
theorem renL_set {σ : Nat → Option Nat} : ∀ (l : List V) (k : Nat) (v : V), renL σ (l.set k v) = (renL σ l).set k (renV σ v)
  | [], _, _ => rfl
  | x :: l, 0, v => rfl
  | x :: l, k + 1, v => by simp only [List.set_cons_succ, renL, renL_set l k v]
/-- Own row i becomes immutable; own row j refers to it. -/
theorem To.frzB (i j : Nat) {xs : List PV} {vs cs : List V} {e : TypeId} (hij : i ≠ j) (hc : blkCells H[i]? = some vs) (hp : allP vs = some xs) (hH : H[j]? = some (.row cs e)) : To P κ N T H (frzT i xs T) ((H.set i .dead).set j (.row (frzL i xs cs) e)) := by
  intro w I ρ tmps hi ht
  rw [allP_some hp] at hc
  obtain ⟨b, arr, e', hρ, hw, hl, hr⟩ := own_cells hi hc
  obtain ⟨bj, hbj⟩ : ∃ b, ρ[j]? = some b := by
    have h1 : j < H.length := (List.getElem?_eq_some_iff.1 hH).1
    rw [← hi.len] at h1
    exact ⟨ρ[j], List.getElem?_eq_getElem h1⟩
  have hH2 : ∃ blk, H[i]? = some blk ∧ blk.live = true := by
    unfold blkCells at hc
    split at hc
    · rename_i h; exact ⟨_, h, rfl⟩
    · rename_i h; exact ⟨_, h, rfl⟩
    · cases hc
  obtain ⟨blk, hHi, hlive⟩ := hH2
  have hE := Ext.freeze hi hρ hHi hlive
  have hF := Inv.freeze hi hρ hHi hlive
  have hx : RelAt w (fun k => I k ∨ k = b) xs b 0 := by
    have h2 := RelVL.pure.1 (RelVL.ext hE hr)
    refine RelAt.of_list xs _ 0 h2 fun j u hj => ?_
    rw [List.getElem?_take] at hj
    split at hj
    · simp only [World.cell?, hw]
      simpa using hj
    · cases hj
  have hHj : (H.set i Blk.dead)[j]? = some (.row cs e) := by rw [List.getElem?_set_ne hij]; exact hH
  refine ⟨_, ρ, hE.w, ?_, ⟨ht.size, fun s v hv => ?_⟩, fun L hL _ => hL⟩
  · refine hF.write hbj hHj rfl (Ext.refl _ _ _) rfl (fun _ _ => rfl) ?_
    obtain ⟨arr2, h1, h2, h3⟩ := hF.rel j bj _ hbj hHj
    have hlen : (frzL i xs cs).length = cs.length := by
      clear hH hHj h2 h3
      induction cs with
      | nil => rfl
      | cons c cs ih => simp [frzL, ih]
    exact ⟨arr2, h1, by rw [hlen]; exact h2, by rw [hlen]; exact frzL_rel hρ (.inr rfl) hx cs _ h3⟩
  · rw [lk_frzT, Option.map_eq_some_iff] at hv
    obtain ⟨v0, h1, rfl⟩ := hv
    exact frzV_rel hρ (.inr rfl) hx v0 _ ((ht.at_ s v0 h1).ext hE)
end
end Go.AF
