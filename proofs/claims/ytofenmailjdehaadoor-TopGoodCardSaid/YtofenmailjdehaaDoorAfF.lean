/-
  New rows of zeros; checks for nil; bits that are taken away. No condition; generic over any program.
-/
import Derived.Test.YtofenmailjdehaaDoorAfE
set_option linter.unusedVariables false
set_option linter.unusedSimpArgs false
set_option linter.unusedSectionVars false
set_option linter.unnecessarySimpa false
namespace Go.AF
section
variable {P : Program} {R : Option Nat} {N κ : Nat} {Q Q' : Post} {T T' T2 T3 : Tm} {H H' H2 H3 : List Blk} {o : Oper} {ops : Array Oper} {rest : List Oper}

theorem range_rep {α : Type} [Inhabited α] (z : List α) (hz : 0 < z.length) : ∀ n : Nat, (List.range (n * z.length)).map (fun i => z[i % z.length]!) = (List.replicate n z).flatten
  | 0 => by simp
  | n + 1 => by
    rw [List.replicate_succ', List.flatten_append, ← range_rep z hz n, Nat.succ_mul, List.range_add, List.map_append]
    congr 1
    simp only [List.flatten_cons, List.flatten_nil, List.append_nil, List.map_map]
    apply List.ext_getElem?
    intro i
    rw [List.getElem?_map]
    by_cases h : i < z.length
    · simp [List.getElem?_range h, Nat.mod_eq_of_lt h, h]
    · rw [List.getElem?_eq_none (by simpa using h), List.getElem?_eq_none (by omega)]; rfl

theorem OpJ.makeSlice {x y : Operand} {t e : TypeId} {z : List PV} {n c by_ : Nat} (ho : o.op = .makeSlice t x y) (hx : ev T x = some (.p (.int .i64 (n : Int)))) (hy : ev T y = some (.p (.int .i64 (c : Int)))) (hs : slI P t = some (e, z)) (hby : byI P e = some by_) (hb0 : 0 < by_)
    (hnc : n ≤ c) (hb : by_ * c ≤ 281474976710656) : OpJ P N o T H (.row H.length n) (H ++ [.row ((List.replicate n z).flatten.map .p) e]) :=
  OpJ.of_run (by simp [ho]) fun w I ρ a hi hT => by
    obtain ⟨hu, ⟨b, ht⟩, hz0, hz⟩ := slI_some hs
    obtain ⟨uz, h1, h2⟩ := hz w
    have h3 := h2 I
    have h4 := RelL.length h3
    simp only [Array.length_toList] at h4
    obtain ⟨inf, hinf, rfl⟩ : ∃ inf, P.info? e = some inf ∧ inf.bytes = by_ := by
      unfold byI at hby
      cases hP : P.info? e with
      | none => rw [hP] at hby; cases hby
      | some inf => rw [hP] at hby; exact ⟨inf, rfl, by simpa using hby⟩
    have hc : c ≤ 281474976710656 := Nat.le_trans (Nat.le_mul_of_pos_left c hb0) hb
    have hask : ∀ k w, (askRoom k).run P w = .ok () w := fun k w => by
      unfold askRoom
      split <;> simp [mark, Sem.run]
    have wn : IntKind.i64.wrap (n : Int) = n := i64ok (by omega)
    have wc : IntKind.i64.wrap (c : Int) = c := i64ok (by omega)
    have hEl : ∀ (cs : Array Value), cs.toList = (List.replicate c uz.cells.toList).flatten → ∃ I' ρ', Ext w I ρ (w.alloc (.cells cs e)) I' ρ' ∧ Inv P (w.alloc (.cells cs e)) I' ρ' (H ++ [.row ((List.replicate n z).flatten.map .p) e]) ∧ RelV P (w.alloc (.cells cs e)) I' ρ' (.row H.length n) (.slice (some ⟨w.heap.size, 0, none⟩) n c) := by
      intro cs hcs
      have hE : Ext w I ρ (w.alloc (.cells cs e)) I (ρ ++ [w.heap.size]) := Ext.allocOwn hi _
      have htk : cs.toList.take ((List.replicate n z).flatten.map V.p).length = (List.replicate n uz.cells.toList).flatten := by
        have e1 : ((List.replicate n z).flatten.map V.p).length = n * z.length := by simp
        rw [e1, hcs, show c = n + (c - n) by omega, ← List.replicate_append_replicate, List.flatten_append, List.take_append_of_le_length (by simp [h4]), List.take_of_length_le (by simp [h4])]
      refine ⟨_, _, hE, Inv.allocOwn hi _ ⟨cs, heap_alloc_new w _, ?_, ?_⟩, ?_⟩
      · rw [← Array.length_toList, hcs]
        simp only [List.length_map, List.length_flatten, List.map_replicate, List.sum_replicate_nat]
        have e3 : uz.cells.toList.length = z.length := h4
        rw [e3]
        exact Nat.mul_le_mul_right _ hnc
      · rw [htk]
        exact RelVL.ext hE (RelVL.pure.2 (RelL.repl h3 n))
      · refine ⟨w.heap.size, e, c, by rw [← hi.len]; simp, rfl, ?_, hnc⟩
        obtain ⟨d, i, _, h5, _, h6⟩ := tyI_some ht
        have hsz : cs.size = c * z.length := by
          rw [← Array.length_toList, hcs]; simp [h4]
        simp only [World.shape?, heap_alloc_new, hsz, Program.cellsOf, h5, Option.map_some, Option.getD_some, h6]
    have hsz : uz.cells.size = z.length := h4
    obtain ⟨I', ρ', e2⟩ := hEl ((Array.range (c * z.length)).map (uz.cells[· % uz.cells.size]!)) (by
      rw [Array.toList_map, Array.toList_range]
      have := range_rep uz.cells.toList (by rw [Array.length_toList, hsz]; exact hz0) c
      rw [Array.length_toList, hsz] at this
      rw [← this, hsz]
      apply List.map_congr_left
      intro i _
      simp [getElem!_def])
    have g1 : ¬ ((c : Int) < 0) := by omega
    have g2 : ¬ ((n : Int) < 0) := by omega
    have g3 : ¬ ((c : Int) < (n : Int)) := by omega
    have g4 : ¬ ((281474976710656 : Int) < (inf.bytes : Int) * (c : Int)) := by
      have : ((inf.bytes * c : Nat) : Int) ≤ 281474976710656 := by omega
      rw [Int.natCast_mul] at this
      omega
    refine ⟨_, _, I', ρ', .inl ?_, e2⟩
    by_cases hc0 : c = 0
    · subst hc0
      obtain rfl : n = 0 := by omega
      have w0 : IntKind.i64.wrap 0 = 0 := by decide
      simp [execOp, ho, ev_int hT hx, ev_int hT hy, Instr.makeSlice, run_underlying hu, asInt, run_asIntOf, run_typeInfo w hinf, w0, hask, run_sizeOf' ht, newRow, newObj, Sem.run]
      have e0 : Array.range 0 = #[] := by decide
      rw [e0, Array.map_empty, Array.map_empty]
    · simp [execOp, ho, ev_int hT hx, ev_int hT hy, Instr.makeSlice, run_underlying hu, asInt, run_asIntOf, run_typeInfo w hinf, wn, wc, hask, run_sizeOf' ht, newRow, newObj, Sem.run, hc0, h1, g1, g2, g3, g4]
      intro h
      exact absurd h (by have := Nat.mul_pos (by omega : 0 < c) hz0; omega)

theorem OpJ.nilCheck {x : Operand} {i off : Nat} (ho : o.op = .nilCheck x) (hx : ev T x = some (.ptr i off)) : OpJ P N o T H (.ptr i off) H :=
  OpJ.of_pure (by simp [ho]) fun w I ρ a hi hT => by
    have h := hT.ev hx
    obtain ⟨b, hb, hu⟩ := h
    exact ⟨_, by simp [execOp, ho, hu], hT.ev hx⟩
theorem OpJ.nilCheckP {x : Operand} {cs : List PV} {off : Nat} (ho : o.op = .nilCheck x) (hx : ev T x = some (.p (.ip cs off))) : OpJ P N o T H (.p (.ip cs off)) H :=
  OpJ.of_pure (by simp [ho]) fun w I ρ a hi hT => by
    have h := hT.ev hx
    obtain ⟨b, o', hb, hu, hr⟩ := h
    exact ⟨_, by simp [execOp, ho, hu], hT.ev hx⟩
/-- 'x &^ y' of numbers that are not negative. -/
theorem OpJ.andNotN {x y : Operand} {t t' : TypeId} {k : IntKind} (a b : Nat) (ho : o.op = .binOp .andNot t x y t') (hx : ev T x = some (.p (.int k (a : Int)))) (hy : ev T y = some (.p (.int k (b : Int)))) (ha : (a : Int) ≤ k.max) : OpJ P N o T H (.p (.int k ((a ^^^ (a &&& b) : Nat) : Int))) H :=
  OpJ.bits ho (.inr (.inr (.inr rfl))) hx hy fun w => by
    have hk := max_lt k
    have ha' : a < 2 ^ k.bits := by have : (a : Int) < ((2 ^ k.bits : Nat) : Int) := by simpa using (by omega : (a : Int) < 2 ^ k.bits)
                                    omega
    have hle : a ^^^ (a &&& b) ≤ a := by
      have : a ^^^ (a &&& b) = a &&& (a ^^^ (a &&& b)) := by
        apply Nat.eq_of_testBit_eq
        intro i
        simp only [Nat.testBit_xor, Nat.testBit_and]
        cases a.testBit i <;> cases b.testBit i <;> rfl
      rw [this]; exact Nat.and_le_left
    have h1 : (BitVec.ofInt k.bits (a : Int) &&& ~~~ BitVec.ofInt k.bits (b : Int)).toNat = a ^^^ (a &&& b) := by
      have e : BitVec.ofInt k.bits (a : Int) &&& ~~~ BitVec.ofInt k.bits (b : Int) = BitVec.ofNat k.bits (a ^^^ (a &&& b)) := by
        rw [ofInt_nat, ofInt_nat]
        apply BitVec.eq_of_getLsbD_eq
        intro i hi
        simp only [BitVec.getLsbD_and, BitVec.getLsbD_not, BitVec.getLsbD_ofNat, Nat.testBit_xor, Nat.testBit_and, hi, decide_true, Bool.true_and]
        cases a.testBit i <;> cases b.testBit i <;> rfl
      rw [e, BitVec.toNat_ofNat, Nat.mod_eq_of_lt (Nat.lt_of_le_of_lt hle ha')]
    have h2 : ((a ^^^ (a &&& b) : Nat) : Int) ≤ k.max := by omega
    have h3 : k.min ≤ 0 := by cases k <;> decide
    simp only [Op.intBits, h1, wrap_lt h2 h3]
    rfl

/-! ### Own blocks read as content -/
theorem brwP {n : Nat} {x : PV} : brwV H n (.p x) = some x := by cases n <;> rfl
theorem brwRow {n i len : Nat} {xs : List PV} (h : blkCells H[i]? = some (xs.map .p)) : brwV H (n + 1) (.row i len) = some (.is xs len) := by
  simp only [brwV, h, mapO_p, Option.map_some]
theorem brwPtr {n i off : Nat} {xs : List PV} (h : blkCells H[i]? = some (xs.map .p)) : brwV H (n + 1) (.ptr i off) = some (.ip xs off) := by
  simp only [brwV, h, mapO_p, Option.map_some]
/-- A variable that holds a row. -/
theorem brwPtrV {n i off : Nat} {v : V} {x : PV} (h : blkCells H[i]? = some [v]) (k : brwV H n v = some x) : brwV H (n + 1) (.ptr i off) = some (.ip [x] off) := by
  simp only [brwV, h, mapO, k, Option.map_some]
theorem brwFunc {n : Nat} {fn : Fn} {fi ca : List V} {xs ys : List PV} (h : mapO (brwV H n) fi = some xs) (k : mapO (brwV H n) ca = some ys) : brwV H (n + 1) (.func fn fi ca) = some (.func fn xs ys) := by
  simp only [brwV, h, k]
theorem mapO.n {f : V → Option PV} : mapO f [] = some [] := rfl
theorem mapO.c {f : V → Option PV} {v : V} {vs : List V} {x : PV} {xs : List PV} (h : f v = some x) (k : mapO f vs = some xs) : mapO f (v :: vs) = some (x :: xs) := by
  simp only [mapO, h, k]

/-! ### Loops that keep what will be looked at -/
def keepT (ks : List Nat) : Tm → Tm
  | [] => []
  | (s, v) :: T => bif ks.any (Nat.beq s) then (s, v) :: keepT ks T else keepT ks T
theorem lk_keepT (ks : List Nat) : ∀ (T : Tm) (s : Nat) (v : V), lk (keepT ks T) s = some v → lk T s = some v
  | [], s, v, h => by cases h
  | (a, u) :: T, s, v, h => by
    simp only [keepT] at h
    cases hk : ks.any (Nat.beq a) with
    | true =>
      rw [hk] at h
      simp only [cond_true, lk] at h ⊢
      cases hb : Nat.beq a s with
      | true => rw [hb] at h; exact h
      | false => rw [hb] at h; exact lk_keepT ks T s v h
    | false =>
      rw [hk] at h
      simp only [cond_false] at h
      have h2 := lk_keepT ks T s v h
      simp only [lk]
      cases hb : Nat.beq a s with
      | false => exact h2
      | true =>
        exfalso
        have e := Nat.eq_of_beq_eq_true hb
        subst e
        have gen : ∀ T : Tm, lk (keepT ks T) a = none := by
          intro T
          induction T with
          | nil => rfl
          | cons p T ih =>
            obtain ⟨c, u⟩ := p
            simp only [keepT]
            cases hc : ks.any (Nat.beq c) with
            | false => exact ih
            | true =>
              simp only [cond_true, lk]
              cases hb2 : Nat.beq c a with
              | false => exact ih
              | true =>
                have e2 := Nat.eq_of_beq_eq_true hb2
                subst e2
                rw [hk] at hc; cases hc
        rw [gen T] at h; cases h
theorem Sub.chk {C T : Tm} {ks : List Nat} (h : Sub C T) : Sub (C ++ keepT ks T) T := by
  intro s v hv
  have app : ∀ (A B : Tm), lk (A ++ B) s = some v → lk A s = some v ∨ lk B s = some v := by
    intro A B
    induction A with
    | nil => intro h; exact .inr h
    | cons p A ih =>
      obtain ⟨a, u⟩ := p
      intro h
      simp only [List.cons_append, lk] at h ⊢
      cases hb : Nat.beq a s with
      | true => rw [hb] at h; exact .inl h
      | false => rw [hb] at h; exact ih h
  rcases app _ _ hv with h1 | h1
  · exact h s v h1
  · exact lk_keepT ks T s v h1
theorem AWp.loopKL {γ : Type} {c : Code} (ks : List Nat) (ch : γ → Tm) (inv : γ → Prop) (μ : γ → Nat) (g0 : γ) (h0 : inv g0) (hS : Sub (ch g0) T)
    (round : ∀ g, inv g → AWp P R N κ c (AX.then (fun T' H' => ∃ g', inv g' ∧ μ g' < μ g ∧ To P κ N T' H' (ch g' ++ keepT ks T) H) Q) (ch g ++ keepT ks T) H) : AWp P R N κ (.loop c) Q T H :=
  AWp.loopT (fun g => ch g ++ keepT ks T) (fun _ => H) inv μ g0 h0 (To.sub (Sub.chk hS)) round
theorem AWp.loopHL {γ : Type} {c : Code} (ks : List Nat) (ch : γ → Tm) (Hs : γ → List Blk) (inv : γ → Prop) (μ : γ → Nat) (g0 : γ) (h0 : inv g0) (hto : To P κ N T H (ch g0 ++ keepT ks T) (Hs g0))
    (round : ∀ g, inv g → AWp P R N κ c (AX.then (fun T' H' => ∃ g', inv g' ∧ μ g' < μ g ∧ To P κ N T' H' (ch g' ++ keepT ks T) (Hs g')) Q) (ch g ++ keepT ks T) (Hs g)) : AWp P R N κ (.loop c) Q T H :=
  AWp.loopT (fun g => ch g ++ keepT ks T) Hs inv μ g0 h0 hto round

theorem frzV_acc {i j n : Nat} {xs : List PV} (h : Nat.beq j i = false) : frzV i xs (accV j n) = accV j n := by
  have hne : j ≠ i := fun e => by subst e; rw [Nat.beq_refl] at h; cases h
  cases n with
  | zero => rfl
  | succ n => simp [accV, frzV, hne]
/-- One own block is frozen, and its slot taken; an accumulator stays as it is. -/
theorem lk_frz_acc {i j n s : Nat} {xs : List PV} (h : Nat.beq j i = false) (hs : lk T s = some (accV j n)) : lk (frzT i xs T) s = some (accV j n) := by
  rw [lk_frzT, hs, Option.map_some, frzV_acc h]
end
end Go.AF
