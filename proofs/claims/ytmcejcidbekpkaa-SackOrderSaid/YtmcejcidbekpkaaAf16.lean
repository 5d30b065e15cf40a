/-
  Short forms for the generator: calls, loops, joins. No condition; generic over any program.
-/
import Derived.Test.YtmcejcidbekpkaaAf15
set_option linter.unusedVariables false
set_option linter.unusedSimpArgs false
set_option linter.unusedSectionVars false
namespace Go.AF
section
variable {P : Program} {R : Option Nat} {N κ : Nat} {Q Q' : Post} {T T' T2 T3 : Tm} {H H' H2 H3 : List Blk} {o : Oper} {ops : Array Oper} {rest : List Oper}

/-- A call of a pure function, its contract first. -/
theorem OpJ.callP {g : FuncId} {args : List PV} {r : PV} (hp : Pure P g args r) {f : Operand} {xs : Array Operand} {ts : Array TypeId} {fv : V} {vs : List V} (ho : o.op = .call { callee := .value f, args := xs, argTypes := ts }) (hf : ev T f = some fv)
    (hxs : evs T xs.toList = some vs) (hc : callee vs fv = some (g, args.map .p)) (hg : realFn P g = true) : OpJ P N o T H (.p r) H :=
  OpJ.callPure ho hf hxs hc hg hp

/-- An element of a slice, its number an integer. -/
theorem OpJ.indexElI {α : Type} {x y : Operand} {t : TypeId} {kd : IntKind} {sz len : Nat} {n : Int} {xs : List α} {f : α → List PV} (ho : o.op = .indexAddr t x y) (hx : ev T x = some (.p (.is (xs.flatMap f) len))) (hy : ev T y = some (.p (.int kd n))) (ht : isSl P t = true)
    (he : elI P t = some sz) (hl : len = xs.length) (hf : ∀ x, (f x).length = sz) (h0 : 0 < sz) (hn : 0 ≤ n) (hk : n.toNat < xs.length) : OpJ P N o T H (.p (.ip (f xs[n.toNat]) 0)) H :=
  OpJ.indexEl (k := n.toNat) ho hx (by rw [hy]; congr 3; omega) ht he hl hf h0 hk

/-- Slots without those of a list. -/
def dropT (ds : List Nat) : Tm → Tm
  | [] => []
  | (s, v) :: r => bif ds.any (Nat.beq s) then dropT ds r else (s, v) :: dropT ds r
theorem lk_dropT (ds : List Nat) : ∀ (T : Tm) (s : Nat) (v : V), lk (dropT ds T) s = some v → lk T s = some v
  | [], s, v, h => h
  | (a, x) :: r, s, v, h => by
    simp only [dropT] at h
    cases hd : ds.any (Nat.beq a) with
    | true =>
      rw [hd] at h
      simp only [cond_true] at h
      have ih := lk_dropT ds r s v h
      simp only [lk]
      cases hb : Nat.beq a s with
      | false => exact ih
      | true =>
        exfalso
        have := Nat.eq_of_beq_eq_true hb
        subst this
        have gen : ∀ T : Tm, lk (dropT ds T) a = none := by
          intro T
          induction T with
          | nil => rfl
          | cons y T ih2 =>
            obtain ⟨b, z⟩ := y
            simp only [dropT]
            cases hd2 : ds.any (Nat.beq b) with
            | true => simpa using ih2
            | false =>
              simp only [cond_false, lk]
              cases hb2 : Nat.beq b a with
              | false => exact ih2
              | true =>
                have := Nat.eq_of_beq_eq_true hb2
                subst this
                rw [hd] at hd2; cases hd2
        rw [gen r] at h; cases h
    | false =>
      rw [hd] at h
      simp only [cond_false, lk] at h ⊢
      cases hb : Nat.beq a s with
      | true => rw [hb] at h; exact h
      | false => rw [hb] at h; exact lk_dropT ds r s v h

/-- The back edge, or the way into a loop: some places are kept. -/
theorem To.done (ks : List Nat) {S : Tm} (hk : keepOk κ H.length ks = true) (hS : Sub S (renT (pl ks) T)) (hH : (ks.map fun i => renB (pl ks) (H.getD i .dead)) = H2) : To P κ N T H S H2 := by
  subst hH
  exact (To.keep ks hk).trans (To.sub hS)
theorem Sub.nil {T : Tm} : Sub [] T := fun s v h => by cases h
theorem Sub.cons {s : Nat} {v : V} {S T : Tm} (h : lk T s = some v) (k : Sub S T) : Sub ((s, v) :: S) T := fun s' v' h' => by
  simp only [lk] at h'
  cases hb : Nat.beq s s' with
  | false => rw [hb] at h'; exact k s' v' h'
  | true =>
    rw [hb] at h'
    have := Nat.eq_of_beq_eq_true hb
    subst this
    simp at h'
    subst h'
    exact h

/-- A loop that leaves the own blocks as they are, but for new ones in each round: 'ch g' are the slots that change. -/
theorem AWp.loopK {γ : Type} {c : Code} (ds : List Nat) (ch : γ → Tm) (inv : γ → Prop) (μ : γ → Nat) (g0 : γ) (h0 : inv g0) (hS : Sub (ch g0) T)
    (round : ∀ g, inv g → AWp P R N κ c (AX.then (fun T' H' => ∃ g', inv g' ∧ μ g' < μ g ∧ To P κ N T' H' (ch g' ++ dropT ds T) H) Q) (ch g ++ dropT ds T) H) : AWp P R N κ (.loop c) Q T H := by
  refine AWp.loopT (fun g => ch g ++ dropT ds T) (fun _ => H) inv μ g0 h0 (To.sub ?_) round
  intro s v h
  have app : ∀ (A B : Tm), lk (A ++ B) s = some v → lk A s = some v ∨ lk B s = some v := by
    intro A B
    induction A with
    | nil => intro h; exact .inr h
    | cons x A ih =>
      obtain ⟨a, y⟩ := x
      intro h
      simp only [List.cons_append, lk] at h ⊢
      cases hb : Nat.beq a s with
      | true => rw [hb] at h; exact .inl h
      | false => rw [hb] at h; exact ih h
  rcases app _ _ h with h | h
  · exact hS s v h
  · exact lk_dropT ds T s v h
/-- The same, with own blocks that change. -/
theorem AWp.loopH {γ : Type} {c : Code} (ds : List Nat) (ch : γ → Tm) (Hs : γ → List Blk) (inv : γ → Prop) (μ : γ → Nat) (g0 : γ) (h0 : inv g0) (hto : To P κ N T H (ch g0 ++ dropT ds T) (Hs g0))
    (round : ∀ g, inv g → AWp P R N κ c (AX.then (fun T' H' => ∃ g', inv g' ∧ μ g' < μ g ∧ To P κ N T' H' (ch g' ++ dropT ds T) (Hs g')) Q) (ch g ++ dropT ds T) (Hs g)) : AWp P R N κ (.loop c) Q T H :=
  AWp.loopT (fun g => ch g ++ dropT ds T) Hs inv μ g0 h0 hto round

/-- Where ways meet again. -/
theorem AWp.join {γ : Type} {x y : Code} (S : γ → Tm) (Hs : γ → List Blk) (inv : γ → Prop) (h : AWp P R N κ x (AX.then (fun T' H' => ∃ g, inv g ∧ To P κ N T' H' (S g) (Hs g)) Q) T H) (k : ∀ g, inv g → AWp P R N κ y Q (S g) (Hs g)) : AWp P R N κ (.seq x y) Q T H := by
  refine AWp.seq (AWp.mono h ?_)
  intro e T' H' q
  cases e with
  | normal =>
    obtain ⟨g, h1, h2⟩ := q
    exact AWp.to h2 (k g h1)
  | _ => exact q

/-! ### Renaming leaves immutable data alone -/
theorem renL_pure (σ : Nat → Option Nat) : ∀ xs : List PV, renL σ (xs.map .p) = xs.map .p
  | [] => rfl
  | x :: xs => by simp [renL, renV, renL_pure σ xs]
theorem renL_map {α : Type} (σ : Nat → Option Nat) (f : α → PV) : ∀ xs : List α, renL σ (xs.map fun x => .p (f x)) = xs.map fun x => .p (f x)
  | [] => rfl
  | x :: xs => by simp [renL, renV, renL_map σ f xs]
theorem renB_mapB {K α : Type} (σ : Nat → Option Nat) (enc : K → PV) (gp : α → PV) (ms : List (K × α)) : renB σ (mapB enc (fun a => .p (gp a)) ms) = mapB enc (fun a => .p (gp a)) ms := by
  simp only [mapB, renB]
  rw [renL_map σ (fun m : K × α => enc m.1), renL_map σ (fun m : K × α => gp m.2)]
theorem renB_iterB {K α : Type} (σ : Nat → Option Nat) (enc : K → PV) (gp : α → PV) (ms : List (K × α)) (l : Option (K × α)) : renB σ (iterB enc gp ms l) = iterB enc gp ms l := rfl
theorem renB_accB (σ : Nat → Option Nat) (xs : List PV) (e : TypeId) : ∀ n : Nat, renB σ (accB (xs.map .p) e n) = accB (xs.map .p) e n
  | 0 => rfl
  | n + 1 => by simp only [accB, renB, renL_pure]

theorem Fin.oneE {fn : Func} {q : ResultVar} {r r' : PV} (h : fn.results = #[q]) (hr : resOne P T H q (.p r')) (e : r' = r) : Fin P N fn r .ret T H := e ▸ Fin.one h hr
theorem Fin.manyE {fn : Func} {r1 r2 : ResultVar} {rs : List ResultVar} {vs : List V} {xs ys : List PV} (h : fn.results = (r1 :: r2 :: rs).toArray) (hr : ress P T H (r1 :: r2 :: rs) vs) (hv : vs = xs.map .p) (e : xs = ys) : Fin P N fn (.tuple ys) .ret T H := e ▸ Fin.many h hr hv

/-- A function's value, at some arguments. -/
def FPure (P : Program) (f : PV) (args : List PV) (r : PV) : Prop := ∃ g all, callee (args.map .p) (.p f) = some (g, all.map .p) ∧ realFn P g = true ∧ Pure P g all r
theorem OpJ.callF {f : PV} {args : List PV} {r : PV} (hF : FPure P f args r) {fo : Operand} {xs : Array Operand} {ts : Array TypeId} (ho : o.op = .call { callee := .value fo, args := xs, argTypes := ts }) (hf : ev T fo = some (.p f)) (hxs : evs T xs.toList = some (args.map .p)) : OpJ P N o T H (.p r) H := by
  obtain ⟨g, all, h1, h2, h3⟩ := hF
  exact OpJ.callPure ho hf hxs h1 h2 h3

theorem renL_app (σ : Nat → Option Nat) : ∀ xs ys : List V, renL σ (xs ++ ys) = renL σ xs ++ renL σ ys
  | [], ys => rfl
  | x :: xs, ys => by simp [renL, renL_app σ xs ys]
/-- One place more, with nothing in it. -/
theorem To.pad : To P κ N T H T (H ++ [.dead]) := fun w I ρ tmps hi ht => by
  have hE : Ext w I ρ w I (ρ ++ [w.heap.size]) := ⟨⟨rfl, rfl, rfl, Nat.le_refl _, fun _ _ _ => rfl, fun _ _ h => h, fun _ h => h, fun _ _ => rfl, fun _ h => .inl h, fun _ h => h, fun _ _ h => h, fun k hk => by
    rcases List.mem_append.1 hk with h | h
    · exact .inl h
    · simp at h; subst h; exact .inr (Nat.le_refl _)⟩, ⟨_, rfl⟩⟩
  have old : ∀ (j k : Nat) (blk : Blk), (ρ ++ [w.heap.size])[j]? = some k → (H ++ [Blk.dead])[j]? = some blk → blk.live = true → ρ[j]? = some k ∧ H[j]? = some blk := fun j k blk h1 h2 h3 => by
    rcases get_append_one h2 with ⟨h4, h5⟩ | ⟨h4, h5⟩
    · rw [List.getElem?_append_left (by rw [hi.len]; exact h4)] at h1
      exact ⟨h1, h5⟩
    · subst h5; cases h3
  refine ⟨I, ρ ++ [w.heap.size], hE.w, ⟨by simp [hi.len], fun j k blk h1 h2 h3 => ?_, hi.ib, fun j k blk h1 h2 h3 => ?_, fun j j' k x y h1 h2 h3 h4 h5 h6 => ?_, fun j k blk h1 h2 => ?_⟩, ht.ext hE, fun L hL _ => hL.trans ⟨_, rfl⟩⟩
  · obtain ⟨h4, h5⟩ := old j k blk h1 h2 h3
    exact hi.bnd j k blk h4 h5 h3
  · obtain ⟨h4, h5⟩ := old j k blk h1 h2 h3
    exact hi.live j k blk h4 h5 h3
  · obtain ⟨h7, h8⟩ := old j k x h1 h3 h5
    obtain ⟨h9, h10⟩ := old j' k y h2 h4 h6
    exact hi.dist j j' k x y h7 h9 h8 h10 h5 h6
  · cases hl : blk.live with
    | false => exact RelB.dead_of hl
    | true =>
      obtain ⟨h4, h5⟩ := old j k blk h1 h2 hl
      exact RelB.ext hE hi h4 h5 rfl

theorem Sub.chd {C T : Tm} {ds : List Nat} (h : Sub C T) : Sub (C ++ dropT ds T) T := by
  intro s v hv
  have app : ∀ (A B : Tm), lk (A ++ B) s = some v → lk A s = some v ∨ lk B s = some v := by
    intro A B
    induction A with
    | nil => intro h; exact .inr h
    | cons x A ih =>
      obtain ⟨a, y⟩ := x
      intro h
      simp only [List.cons_append, lk] at h ⊢
      cases hb : Nat.beq a s with
      | true => rw [hb] at h; exact .inl h
      | false => rw [hb] at h; exact ih h
  rcases app _ _ hv with hv | hv
  · exact h s v hv
  · exact lk_dropT ds T s v hv

/-- An element of a pair, its number not known. -/
theorem OpJ.indexPair {x y : Operand} {t : TypeId} {kd k : IntKind} {n a b : Int} (ho : o.op = .index t x y) (hx : ev T x = some (.p (.agg [.int k a, .int k b]))) (hy : ev T y = some (.p (.int kd n))) (ht : arrV P t = some (2, false, 1)) (h0 : 0 ≤ n) (hl : n < 2) :
    OpJ P N o T H (.p (.int k (if n = 0 then a else b))) H := by
  refine OpJ.indexV ho hx hy ht h0 hl ?_
  by_cases h : n = 0
  · subst h; rfl
  · have : n = 1 := by omega
    subst this; rfl

/-- A lookup in an own map, by what is there or the zero value. -/
theorem OpJ.lookupOwnD {K α : Type} [DecidableEq K] {enc : K → PV} {gp : α → PV} {d : TypeDesc} (hk : KeyOk enc d) {x y : Operand} {t : TypeId} {z : PV} {ms : List (K × α)} {i : Nat} {n : K} (a0 : α) (ho : o.op = .lookup t x y false) (hx : ev T x = some (.map i)) (hH : H[i]? = some (mapB enc (fun a => .p (gp a)) ms)) (hy : ev T y = some (.p (enc n)))
    (ht : mapI P t = some (d, z)) (hz : z = gp a0) : OpJ P N o T H (.p (gp ((mget n ms).getD a0))) H := by
  have h := OpJ.lookupOwn (N := N) hk (g := fun a => V.p (gp a)) ho hx hH hy ht
  have e : lkup z false ((mget n ms).map fun a => V.p (gp a)) = .p (gp ((mget n ms).getD a0)) := by
    unfold lkup
    cases mget n ms with
    | none => simp [hz]
    | some a => rfl
  rw [e] at h
  exact h
theorem mget_mset {K α : Type} [DecidableEq K] (k n : K) (a : α) : ∀ ms : List (K × α), mget k (mset n a ms) = if k = n then some a else mget k ms
  | [] => by simp [mset, mget]
  | m :: r => by
    simp only [mset]
    by_cases h : n = m.1
    · rw [if_pos h]
      simp only [mget, h]
      split <;> rfl
    · rw [if_neg h]
      simp only [mget, mget_mset k n a r]
      by_cases h2 : k = m.1
      · rw [if_pos h2, if_pos h2, if_neg (fun e => h (by rw [← e, h2]))]
      · rw [if_neg h2, if_neg h2]
end
end Go.AF
