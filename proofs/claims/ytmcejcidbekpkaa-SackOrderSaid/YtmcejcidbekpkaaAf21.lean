/-
  Own rows of elements of one length, at places that are not known. No condition; generic over any program.
-/
import Derived.Test.YtmcejcidbekpkaaAf20
set_option linter.unusedVariables false
set_option linter.unusedSimpArgs false
set_option linter.unusedSectionVars false
namespace Go.AF
section
variable {P : Program} {R : Option Nat} {N κ : Nat} {Q Q' : Post} {T T' T2 T3 : Tm} {H H' H2 H3 : List Blk} {o : Oper} {ops : Array Oper} {rest : List Oper}

/-- An empty slice, by what is in it. -/
theorem To.nilIs (s : Nat) (hs : lk T s = some (.p .nilSlice)) : To P κ N T H ((s, .p (.is [] 0)) :: dropT [s] T) H := fun w I ρ tmps hi ht => by
  refine ⟨I, ρ, ExtW.refl _ _ _, hi, ⟨ht.size, fun a x hx => ?_⟩, fun L hL _ => hL⟩
  simp only [lk] at hx
  cases hb : Nat.beq s a with
  | true =>
    rw [hb] at hx
    have := Nat.eq_of_beq_eq_true hb
    subst this
    simp at hx
    subst hx
    have h := ht.at_ s _ hs
    have h' : tmps.getD s undef = .slice none 0 0 := h
    rw [h']
    exact .inl ⟨⟨none, 0, rfl⟩, rfl⟩
  | false =>
    rw [hb] at hx
    exact ht.at_ a x (lk_dropT [s] T a x hx)

/-- What was appended to, by what is in it; all else stays. -/
theorem To.accD (s i n : Nat) {xs : List PV} {e : TypeId} (hs : lk T s = some (accV i n)) (hH : H[i]? = some (accB (xs.map .p) e n)) (h0 : n = 0 → xs = []) : To P κ N T H ((s, .p (.is xs n)) :: dropT [s] T) (H.set i .dead) := by
  intro w I ρ tmps hi ht
  obtain ⟨I1, ρ1, h1, h2, h3, h4⟩ := To.acc (P := P) (κ := κ) (N := N) s i n hs hH h0 w I ρ tmps hi ht
  cases n with
  | zero =>
    have h := h0 rfl
    subst h
    have e1 : H.set i .dead = H := by
      apply List.ext_getElem?
      intro j
      rw [List.getElem?_set]
      split
      · rename_i hij
        subst hij
        split
        · exact hH.symm
        · rename_i h; rw [List.getElem?_eq_none (by omega)]
      · rfl
    rw [e1]
    refine ⟨I, ρ, ExtW.refl _ _ _, hi, ⟨ht.size, fun s' v hv => ?_⟩, fun _ h _ => h⟩
    simp only [lk] at hv
    cases hb : Nat.beq s s' with
    | false => rw [hb] at hv; exact ht.at_ s' v (lk_dropT [s] T s' v hv)
    | true =>
      rw [hb] at hv
      have := Nat.eq_of_beq_eq_true hb
      subst this
      simp at hv
      subst hv
      exact .inl ⟨⟨_, _, ht.at_ s _ hs⟩, rfl⟩
  | succ n =>
    obtain ⟨I', k1, k2, k3⟩ := frz_step (i := i) (xs := xs) hi (by rw [show H[i]? = some (.row (xs.map .p) e) from hH]; rfl) ht
    refine ⟨I', ρ, k1.w, k2, ⟨ht.size, fun s' v hv => ?_⟩, fun _ h _ => h⟩
    simp only [lk] at hv
    cases hb : Nat.beq s s' with
    | false => rw [hb] at hv; exact (ht.at_ s' v (lk_dropT [s] T s' v hv)).ext k1
    | true =>
      rw [hb] at hv
      have := Nat.eq_of_beq_eq_true hb
      subst this
      simp at hv
      subst hv
      have hm : ∀ T : Tm, lk T s = some (V.row i (n + 1)) → lk (frzT i xs T) s = some (frzV i xs (V.row i (n + 1))) := fun T hT => by
        rw [lk_frzT, hT]; rfl
      have := k3.at_ s _ (hm T hs)
      simpa [frzV] using this
theorem renV_acc {σ : Nat → Option Nat} {i j : Nat} (h : σ i = some j) : ∀ n, renV σ (accV i n) = accV j n
  | 0 => rfl
  | n + 1 => by simp only [accV, renV, h]
/-- An element of an own row. -/
theorem OpJ.indexRow {x y : Operand} {t : TypeId} {kd : IntKind} {sz i len k : Nat} (ho : o.op = .indexAddr t x y) (hx : ev T x = some (.row i len)) (hy : ev T y = some (.p (.int kd (k : Int)))) (ht : isSl P t = true) (he : elI P t = some sz) (hk : k < len) : OpJ P N o T H (.ptr i (k * sz)) H :=
  OpJ.indexSlice ho hx hy ht he (fun _ _ h => by cases h) (by omega) (by simp [aindex, hk])
/-- An element of an own array. -/
theorem OpJ.indexArrI {x y : Operand} {t : TypeId} {kd : IntKind} {sz len i off k : Nat} (ho : o.op = .indexAddr t x y) (hx : ev T x = some (.ptr i off)) (hy : ev T y = some (.p (.int kd (k : Int)))) (ht : arrI P t = some len) (he : elI P t = some sz) (hk : k < len) : OpJ P N o T H (.ptr i (off + k * sz)) H :=
  OpJ.indexArr ho hx hy ht he (by omega) (by omega) (by simp [shift])

theorem setAt_one (cs : List V) (k : Nat) (v : V) : setAt cs k [v] = cs.set k v := rfl
theorem setAt_set : ∀ (vs cs : List V) (k : Nat), k + vs.length ≤ cs.length → setAt cs k vs = cs.take k ++ vs ++ cs.drop (k + vs.length)
  | [], cs, k, h => by simp [setAt]
  | v :: vs, cs, k, h => by
    simp only [List.length_cons] at h
    simp only [setAt]
    rw [setAt_set vs (cs.set k v) (k + 1) (by simp; omega)]
    have hk : k < cs.length := by omega
    rw [← List.take_append_getElem (l := cs.set k v) (i := k) (by simpa using hk)]
    simp only [List.getElem_set_self, List.length_cons]
    rw [List.take_set_of_le (Nat.le_refl _), List.drop_set_of_lt (by omega), show k + 1 + vs.length = k + (vs.length + 1) by omega]
    simp
theorem flat_set {α : Type} {f : α → List PV} {c : Nat} (hf : ∀ x, (f x).length = c) : ∀ (xs : List α) (k : Nat) (z : α), k < xs.length → (xs.set k z).flatMap f = (xs.flatMap f).take (k * c) ++ f z ++ (xs.flatMap f).drop (k * c + c)
  | x :: xs, 0, z, _ => by
    simp only [List.set_cons_zero, List.flatMap_cons, Nat.zero_mul, List.take_zero, List.nil_append, Nat.zero_add]
    rw [List.drop_append_of_le_length (by rw [hf]; exact Nat.le_refl _), List.drop_of_length_le (by rw [hf]; exact Nat.le_refl _)]
    rfl
  | x :: xs, k + 1, z, h => by
    simp only [List.set_cons_succ, List.flatMap_cons]
    rw [flat_set hf xs k z (by simpa using h)]
    have e : (k + 1) * c = (f x).length + k * c := by rw [hf, Nat.add_mul]; omega
    rw [e, List.take_length_add_append, Nat.add_assoc, List.drop_length_add_append]
    simp only [List.append_assoc]
/-- Cells of one element are written anew. -/
theorem setAt_flat {α : Type} {f : α → List PV} {c : Nat} (hf : ∀ x, (f x).length = c) (xs : List α) (k j : Nat) (z : α) (ws : List PV) (hk : k < xs.length) (hj : j + ws.length ≤ c) (hz : f z = (f xs[k]).take j ++ ws ++ (f xs[k]).drop (j + ws.length)) :
    setAt ((xs.flatMap f).map .p) (k * c + j) (ws.map .p) = ((xs.set k z).flatMap f).map .p := by
  have hl : (xs.flatMap f).length = xs.length * c := flat_len hf xs
  have hb : k * c + c ≤ xs.length * c := by
    have := Nat.mul_le_mul_right c (show k + 1 ≤ xs.length from hk)
    rw [Nat.add_mul] at this
    omega
  have hw := flat_win hf xs k hk
  rw [setAt_set _ _ _ (by simp only [List.length_map, hl]; omega), flat_set hf xs k z hk, hz]
  simp only [List.length_map, ← List.map_take, ← List.map_drop, ← List.map_append]
  congr 1
  have e1 : (xs.flatMap f).take (k * c + j) = (xs.flatMap f).take (k * c) ++ (f xs[k]).take j := by
    rw [← hw, List.take_add, List.take_take]
    rw [show min j c = j by omega]
  have e2 : (xs.flatMap f).drop (k * c + j + ws.length) = (f xs[k]).drop (j + ws.length) ++ (xs.flatMap f).drop (k * c + c) := by
    rw [← hw]
    have : (xs.flatMap f).drop (k * c) = ((xs.flatMap f).drop (k * c)).take c ++ (xs.flatMap f).drop (k * c + c) := by
      rw [← List.drop_drop, List.take_append_drop]
    rw [Nat.add_assoc, ← List.drop_drop, this, List.drop_append_of_le_length (by rw [List.length_take, List.length_drop, hl]; omega)]
    rw [← this]
  rw [e1, e2]
  simp only [List.append_assoc]
/-- A store to an element of an own row. -/
theorem OpJ.storeRow {α : Type} {f : α → List PV} {c k j n i off : Nat} {b : Bool} {xs : List α} {z : α} {ws : List PV} {e : TypeId} {x y : Operand} {t : TypeId} {v : V} (ho : o.op = .store t x y) (hx : ev T x = some (.ptr i off)) (hy : ev T y = some v) (hk : cellsOk v = true) (h1 : (cellsV v).all oneV = true)
    (ht : tyI P t = some (b, n)) (hn : (cellsV v).length = n) (hv : cellsV v = ws.map .p) (hH : H[i]? = some (.row ((xs.flatMap f).map .p) e)) (hoff : off = k * c + j) (hf : ∀ x, (f x).length = c) (hkx : k < xs.length) (hj : j + ws.length ≤ c)
    (hz : f z = (f xs[k]).take j ++ ws ++ (f xs[k]).drop (j + ws.length)) : OpJ P N o T H .top (H.set i (.row (((xs.set k z).flatMap f).map .p) e)) := by
  refine OpJ.store ho hx hy hk h1 ht hn ?_
  have hl : (xs.flatMap f).length = xs.length * c := flat_len hf xs
  have hb : k * c + c ≤ xs.length * c := by
    have := Nat.mul_le_mul_right c (show k + 1 ≤ xs.length from hkx)
    rw [Nat.add_mul] at this
    omega
  subst hoff
  simp only [astore, hH, hv]
  rw [if_pos (by simp only [List.length_map, hl]; omega), setAt_flat hf xs k j z ws hkx hj hz]
theorem OpJ.storeCells {α : Type} {f : α → List PV} {c k j n i off : Nat} {b : Bool} {xs : List α} {z : α} {ws : List PV} {e : TypeId} {x y : Operand} {t : TypeId} {v : V} (ho : o.op = .store t x y) (hx : ev T x = some (.ptr i off)) (hy : ev T y = some v) (hk : cellsOk v = true) (h1 : (cellsV v).all oneV = true)
    (ht : tyI P t = some (b, n)) (hn : (cellsV v).length = n) (hv : cellsV v = ws.map .p) (hH : H[i]? = some (.cells ((xs.flatMap f).map .p) e)) (hoff : off = k * c + j) (hf : ∀ x, (f x).length = c) (hkx : k < xs.length) (hj : j + ws.length ≤ c)
    (hz : f z = (f xs[k]).take j ++ ws ++ (f xs[k]).drop (j + ws.length)) : OpJ P N o T H .top (H.set i (.cells (((xs.set k z).flatMap f).map .p) e)) := by
  refine OpJ.store ho hx hy hk h1 ht hn ?_
  have hl : (xs.flatMap f).length = xs.length * c := flat_len hf xs
  have hb : k * c + c ≤ xs.length * c := by
    have := Nat.mul_le_mul_right c (show k + 1 ≤ xs.length from hkx)
    rw [Nat.add_mul] at this
    omega
  subst hoff
  simp only [astore, hH, hv]
  rw [if_pos (by simp only [List.length_map, hl]; omega), setAt_flat hf xs k j z ws hkx hj hz]
/-- A load of a part of an element of an own block. -/
theorem OpJ.loadFlat {α : Type} {f : α → List PV} {c k j n i off : Nat} {b : Bool} {xs : List α} {blk : Blk} {x : Operand} {t : TypeId} {v : PV} (ho : o.op = .load t x) (hx : ev T x = some (.ptr i off)) (ht : tyI P t = some (b, n)) (hH : H[i]? = some blk) (hc : blkCells (some blk) = some ((xs.flatMap f).map .p)) (hoff : off = k * c + j)
    (hf : ∀ x, (f x).length = c) (hkx : k < xs.length) (hj : j + (if b then n else 1) ≤ c) (hv : (if b then PV.agg (((f xs[k]).drop j).take n) else ((f xs[k])[j]?).getD .nilPtr) = v) : OpJ P N o T H (.p v) H := by
  have hl : (xs.flatMap f).length = xs.length * c := flat_len hf xs
  have hb : k * c + c ≤ xs.length * c := by
    have := Nat.mul_le_mul_right c (show k + 1 ≤ xs.length from hkx)
    rw [Nat.add_mul] at this
    omega
  have hw := flat_win hf xs k hkx
  subst hoff
  refine OpJ.load ho hx ht ?_
  cases b with
  | false =>
    simp only [Bool.false_eq_true, if_false] at hj hv
    simp only [aload, hH, hc, Bool.false_eq_true, if_false]
    have hlt : k * c + j < (xs.flatMap f).length := by rw [hl]; omega
    rw [List.getElem?_map, List.getElem?_eq_getElem hlt]
    have : (f xs[k])[j]? = some (xs.flatMap f)[k * c + j] := by
      rw [← hw, List.getElem?_take, if_pos (by omega), List.getElem?_drop, List.getElem?_eq_getElem hlt]
    rw [this] at hv
    simp at hv
    simp [hv]
  | true =>
    simp only [if_true] at hj hv
    simp only [aload, hH, hc, if_true]
    rw [if_pos (by simp only [List.length_map, hl]; omega)]
    have : (((xs.flatMap f).map V.p).drop (k * c + j)).take n = (((f xs[k]).drop j).take n).map .p := by
      rw [← List.map_drop, ← List.map_take, ← hw, List.drop_take, List.take_take, List.drop_drop, show min n (c - j) = n by omega]
    rw [this]
    simp only [aggOf, allP_map, hv]
/-- The same, to an own row that was there whole. -/
theorem asrc_is {xs : List PV} {n sz : Nat} (h : xs.length = n * sz) : asrc H sz (.p (.is xs n)) = some (xs.map .p, n) := by simp [asrc, h]
theorem asrc_row {i n sz : Nat} {cs : List V} (h : blkCells H[i]? = some cs) (hl : cs.length = n * sz) : asrc H sz (.row i n) = some (cs, n) := by
  simp [asrc, h, hl]
  rw [← hl, List.take_length]
end
end Go.AF
