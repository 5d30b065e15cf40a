/-
  The walk's judgements over abstract states, and the rules of control. No condition; generic over any program.
-/
import Derived.Test.YtmcejcidbekpkaaAf2
set_option linter.unusedVariables false
set_option linter.unusedSimpArgs false
namespace Go.AF

def Fr (R : Option Nat) : Fence := { Fence.wide with round := R }

inductive AX where
  | normal | ret
  | exit (id : Nat)
  | panic (v : V)

def ExR (P : Program) (w : World) (I : Nat → Prop) (ρ : List Nat) : AX → Exit → Prop
  | .normal, .normal => True
  | .ret, .ret => True
  | .exit i, .exit j => i = j
  | .panic v, .panic chain => ∃ u, chain = [{ v := u, recovered := false }] ∧ RelV P w I ρ v u
  | _, _ => False

/-- What a call began with: how many blocks there were, and the own blocks that keep their places. -/
structure Base where
  size : Nat
  pre : List Nat

/-- The deferred calls are marks of ranges over functions, with nothing behind them; all of them of this call's own. -/
def Marks (κ : Nat) (B : Base) (w : World) (I : Nat → Prop) (ρ : List Nat) (ds : List Deferred) : Prop :=
  B.size ≤ w.heap.size ∧ B.pre.length ≤ κ ∧ B.pre <+: ρ ∧ ∃ rs : List Nat, ds = rs.map (fun r => { target := .collected r, args := #[] }) ∧ rs.Nodup ∧ ∀ r ∈ rs, w.heap[r]? = some (Obj.deferred (some [])) ∧ ¬ I r ∧ B.size ≤ r

theorem Marks.ext {κ : Nat} {B : Base} {w w' : World} {I I' : Nat → Prop} {ρ ρ' : List Nat} {ds : List Deferred} (h : Ext w I ρ w' I' ρ') (m : Marks κ B w I ρ ds) : Marks κ B w' I' ρ' ds := by
  obtain ⟨hB, hκ, hp, rs, h1, h2, h3⟩ := m
  refine ⟨Nat.le_trans hB h.w.size, hκ, hp.trans h.pre, rs, h1, h2, fun r hr => ?_⟩
  obtain ⟨h4, h5, h6⟩ := h3 r hr
  exact ⟨h.w.defKeep r h4, fun h7 => h5 (h.w.defI r h4 h7), h6⟩

abbrev Tm := List (Nat × V)
abbrev Post := AX → Tm → List Blk → Prop

def QC (κ : Nat) (B : Base) (P : Program) (N : Nat) (Q : Post) (w : World) (I : Nat → Prop) (ρ : List Nat) (e : Exit) (a' : Act) (w' : World) : Prop :=
  ∃ x I' ρ' T' H', ExR P w' I' ρ' x e ∧ Q x T' H' ∧ ExtW w I ρ w' I' ρ' ∧ Inv P w' I' ρ' H' ∧ TRel P w' I' ρ' N T' a'.tmps ∧ Marks κ B w' I' ρ' a'.defers

theorem QC.ext {κ : Nat} {B : Base} {P : Program} {N : Nat} {Q : Post} {w w' : World} {I I' : Nat → Prop} {ρ ρ' : List Nat} (h : ExtW w I ρ w' I' ρ') {e : Exit} {a : Act} {u : World} (q : QC κ B P N Q w' I' ρ' e a u) : QC κ B P N Q w I ρ e a u := by
  obtain ⟨x, J, σ, T, H, h1, h2, h3, h4⟩ := q
  exact ⟨x, J, σ, T, H, h1, h2, h.trans h3, h4⟩

/-- What a piece of code does to an abstract state. -/
def AWp (P : Program) (R : Option Nat) (N κ : Nat) (c : Code) (Q : Post) (T : Tm) (H : List Blk) : Prop :=
  ∀ B w I ρ a, Inv P w I ρ H → TRel P w I ρ N T a.tmps → Marks κ B w I ρ a.defers → c.wpIn (Fr R) 0 P (QC κ B P N Q w I ρ) a w

section
variable {P : Program} {R : Option Nat} {N κ : Nat} {Q Q' : Post} {T T' : Tm} {H : List Blk}

theorem AWp.mono {c : Code} (h : AWp P R N κ c Q T H) (hq : ∀ x T H, Q x T H → Q' x T H) : AWp P R N κ c Q' T H :=
  fun B w I ρ a hi ht hm => wpIn_mono (h B w I ρ a hi ht hm) fun _ _ _ ⟨x, J, σ, T, H, h1, h2, h3⟩ => ⟨x, J, σ, T, H, h1, hq _ _ _ h2, h3⟩
theorem AWp.sub {c : Code} (T' : Tm) (hs : subB T' T) (h : AWp P R N κ c Q T' H) : AWp P R N κ c Q T H :=
  fun B w I ρ a hi ht hm => h B w I ρ a hi (ht.sub (Sub.of hs)) hm
theorem AWp.sub' {c : Code} {T' : Tm} (hs : Sub T' T) (h : AWp P R N κ c Q T' H) : AWp P R N κ c Q T H :=
  fun B w I ρ a hi ht hm => h B w I ρ a hi (ht.sub hs) hm

theorem AWp.skip (h : Q .normal T H) : AWp P R N κ .skip Q T H :=
  fun B w I ρ a hi ht hm => wpIn_skip ⟨.normal, I, ρ, T, H, trivial, h, ExtW.refl _ _ _, hi, ht, hm⟩
theorem AWp.ret (h : Q .ret T H) : AWp P R N κ .ret Q T H :=
  fun B w I ρ a hi ht hm => wpIn_ret ⟨.ret, I, ρ, T, H, trivial, h, ExtW.refl _ _ _, hi, ht, hm⟩
theorem AWp.exit {id : Nat} (h : Q (.exit id) T H) : AWp P R N κ (.exit id) Q T H :=
  fun B w I ρ a hi ht hm => wpIn_exit ⟨.exit id, I, ρ, T, H, rfl, h, ExtW.refl _ _ _, hi, ht, hm⟩

def AX.then (next : Tm → List Blk → Prop) (Q : Post) : Post
  | .normal, T, H => next T H
  | x, T, H => Q x T H

theorem AWp.seq {x y : Code} (h : AWp P R N κ x (AX.then (AWp P R N κ y Q) Q) T H) : AWp P R N κ (.seq x y) Q T H := by
  intro B w I ρ a hi ht hm
  refine wpIn_seq (wpIn_mono (h B w I ρ a hi ht hm) ?_)
  rintro e a' w' ⟨z, J, σ, T1, H1, h1, h2, h3, h4, h5, h6⟩
  cases z <;> cases e <;> first | exact h1.elim | skip
  · exact wpIn_mono (h2 B w' J σ a' h4 h5 h6) fun _ _ _ q => QC.ext h3 q
  all_goals exact ⟨_, J, σ, T1, H1, h1, h2, h3, h4, h5, h6⟩

theorem AWp.cond {c : Operand} {x y : Code} (b : Bool) (hc : ev T c = some (.p (.bool b))) (ht : b = true → AWp P R N κ x Q T H) (hf : b = false → AWp P R N κ y Q T H) : AWp P R N κ (.cond c x y) Q T H :=
  fun B w I ρ a hi hT hm => wpIn_cond_split (t := b) (by have := hT.ev hc; simpa [RelV, Rel] using this) (fun h => ht h B w I ρ a hi hT hm) (fun h => hf h B w I ρ a hi hT hm)

def AX.inBlock (id : Nat) (Q : Post) : Post
  | .exit id', T, H => if id' = id then Q .normal T H else Q (.exit id') T H
  | x, T, H => Q x T H

theorem AWp.block {id : Nat} {c : Code} (h : AWp P R N κ c (AX.inBlock id Q) T H) : AWp P R N κ (.block id c) Q T H := by
  intro B w I ρ a hi ht hm
  refine wpIn_block (wpIn_mono (h B w I ρ a hi ht hm) ?_)
  rintro e a' w' ⟨z, J, σ, T1, H1, h1, h2, h3⟩
  cases z <;> cases e <;> first | exact h1.elim | skip
  · exact ⟨.normal, J, σ, T1, H1, h1, h2, h3⟩
  · exact ⟨.ret, J, σ, T1, H1, h1, h2, h3⟩
  · rename_i i j
    obtain rfl : i = j := h1
    simp only [AX.inBlock] at h2
    simp only [Exit.inBlock]
    by_cases e : i = id
    · rw [if_pos e] at h2 ⊢
      exact ⟨.normal, J, σ, T1, H1, trivial, h2, h3⟩
    · rw [if_neg e] at h2 ⊢
      exact ⟨.exit i, J, σ, T1, H1, rfl, h2, h3⟩
  · exact ⟨_, J, σ, T1, H1, h1, h2, h3⟩

end

theorem exists_least (p : Nat → Prop) (h : ∃ n, p n) : ∃ n, p n ∧ ∀ m, p m → n ≤ m := by
  obtain ⟨n, hn⟩ := h
  induction n using Nat.strongRecOn with
  | _ n ih =>
    by_cases hm : ∃ m, m < n ∧ p m
    · obtain ⟨m, h1, h2⟩ := hm
      exact ih m h1 h2
    · exact ⟨n, hn, fun m h => by
        rcases Nat.lt_or_ge m n with h1 | h1
        · exact absurd ⟨m, h1, h⟩ hm
        · exact h1⟩

theorem wpIn_loop_by {γ : Type} {F : Fence} {n : Nat} {P : Program} {c : Code} {Q : Exit → Act → World → Prop} {a : Act} {w : World} (J : γ → Act → World → Prop) (μ : γ → Nat) (g0 : γ) (h0 : J g0 a w)
    (round : ∀ g a w, J g a w → c.wpIn F n P (Exit.then (fun a' w' => ∃ g', J g' a' w' ∧ μ g' < μ g) Q) a w) : (Code.loop c).wpIn F n P Q a w := by
  have hl : ∀ a w, (∃ g, J g a w) → ∃ m, (∃ g, μ g = m ∧ J g a w) ∧ ∀ k, (∃ g, μ g = k ∧ J g a w) → m ≤ k := fun a w ⟨g, hg⟩ => exists_least _ ⟨μ g, g, rfl, hg⟩
  classical
  let M : Act → World → Nat := fun a w => if h : ∃ g, J g a w then Classical.choose (hl a w h) else 0
  have hM : ∀ a w, (∃ g, J g a w) → (∃ g, μ g = M a w ∧ J g a w) ∧ ∀ g, J g a w → M a w ≤ μ g := fun a w h => by
    have h1 := Classical.choose_spec (hl a w h)
    have e : M a w = Classical.choose (hl a w h) := dif_pos h
    rw [e]
    exact ⟨h1.1, fun g hg => h1.2 _ ⟨g, rfl, hg⟩⟩
  refine wpIn_loop (fun a w => ∃ g, J g a w) M ⟨g0, h0⟩ fun a w h => ?_
  obtain ⟨⟨g, hg, hJ⟩, _⟩ := hM a w h
  refine wpIn_mono (round g a w hJ) ?_
  intro e a' w' q
  cases e with
  | normal =>
    obtain ⟨g', h1, h2⟩ := q
    refine ⟨⟨g', h1⟩, ?_⟩
    have := (hM a' w' ⟨g', h1⟩).2 g' h1
    omega
  | _ => exact q

section
variable {P : Program} {R : Option Nat} {N κ : Nat} {Q Q' : Post} {T T' : Tm} {H : List Blk}
/-- A loop, by what its rounds' heads look like: 'S g', 'Hs g' at a ghost g. -/
theorem AWp.loop {γ : Type} {c : Code} (S : γ → Tm) (Hs : γ → List Blk) (inv : γ → Prop) (μ : γ → Nat) (g0 : γ) (h0 : inv g0) (hS : Sub (S g0) T) (hH : H = Hs g0)
    (round : ∀ g, inv g → AWp P R N κ c (AX.then (fun T' H' => ∃ g', inv g' ∧ μ g' < μ g ∧ Sub (S g') T' ∧ H' = Hs g') Q) (S g) (Hs g)) : AWp P R N κ (.loop c) Q T H := by
  intro B w I ρ a hi ht hm
  refine wpIn_loop_by (fun g a' w' => inv g ∧ ∃ I' ρ', ExtW w I ρ w' I' ρ' ∧ Inv P w' I' ρ' (Hs g) ∧ TRel P w' I' ρ' N (S g) a'.tmps ∧ Marks κ B w' I' ρ' a'.defers) μ g0 ⟨h0, I, ρ, ExtW.refl _ _ _, hH ▸ hi, ht.sub hS, hm⟩ ?_
  rintro g a' w' ⟨hg, I', ρ', he, hi', ht', hm'⟩
  refine wpIn_mono (round g hg B w' I' ρ' a' hi' ht' hm') ?_
  rintro e a2 w2 ⟨z, J, σ, T1, H1, h1, h2, h3, h4, h5, h6⟩
  cases z <;> cases e <;> first | exact h1.elim | skip
  · obtain ⟨g', h7, h8, h9, h10⟩ := h2
    exact ⟨g', ⟨h7, J, σ, he.trans h3, h10 ▸ h4, h5.sub h9, h6⟩, h8⟩
  all_goals exact ⟨_, J, σ, T1, H1, h1, h2, he.trans h3, h4, h5, h6⟩

/-! ### Operations -/
/-- One operation yields v, and the own blocks are H' then. -/
def OpJ (P : Program) (N : Nat) (o : Oper) (T : Tm) (H : List Blk) (v : V) (H' : List Blk) : Prop :=
  ∀ R w I ρ a, Inv P w I ρ H → TRel P w I ρ N T a.tmps → ∀ (K : Act → World → Prop) (QX : Exit → Act → World → Prop),
    (∀ u w' I' ρ', Ext w I ρ w' I' ρ' → Inv P w' I' ρ' H' → RelV P w' I' ρ' v u → K (a.put o.dst u) w') → o.wpIn (Fr R) 0 P a w K QX

theorem about_wide {o : Oper} {a : Act} {w : World} {R : Option Nat} : ∀ f, o.about P w a.eval = some f → (Fr R).fn f := fun _ _ => trivial

theorem semAt_plain (R : Option Nat) (ρ : Operand → Value) (o : Oper) (h : ∀ c, o.op ≠ .defer c) : o.semAt R ρ = execOp ρ o := Oper.semAt_eq R ρ o h

theorem OpJ.of_run {o : Oper} {v : V} {H' : List Blk} (hop : ∀ c, o.op ≠ .defer c)
    (h : ∀ w I ρ (a : Act), Inv P w I ρ H → TRel P w I ρ N T a.tmps → ∃ u w' I' ρ', ((execOp a.eval o).run P w = .ok (.value u) w' ∨ ((execOp a.eval o).run P w = .ok .skip w' ∧ u = undef)) ∧ Ext w I ρ w' I' ρ' ∧ Inv P w' I' ρ' H' ∧ RelV P w' I' ρ' v u) :
    OpJ P N o T H v H' := by
  intro R w I ρ a hi ht K QX hK
  refine ⟨about_wide, ?_⟩
  rw [semAt_plain _ _ _ hop]
  obtain ⟨u, w', I', ρ', h1, h2, h3, h4⟩ := h w I ρ a hi ht
  rcases h1 with h1 | ⟨h1, rfl⟩
  · rw [h1]; exact hK u w' I' ρ' h2 h3 h4
  · rw [h1]; exact hK undef w' I' ρ' h2 h3 h4

theorem OpJ.of_pure {o : Oper} {v : V} (hop : ∀ c, o.op ≠ .defer c)
    (h : ∀ w I ρ (a : Act), Inv P w I ρ H → TRel P w I ρ N T a.tmps → ∃ u, (execOp a.eval o).run P w = .ok (.value u) w ∧ RelV P w I ρ v u) : OpJ P N o T H v H :=
  OpJ.of_run hop fun w I ρ a hi ht => let ⟨u, h1, h2⟩ := h w I ρ a hi ht; ⟨u, w, I, ρ, .inl h1, Ext.refl _ _ _, hi, h2⟩

theorem OpJ.sub {o : Oper} {v : V} {H' : List Blk} (hs : Sub T' T) (h : OpJ P N o T' H v H') : OpJ P N o T H v H' :=
  fun R w I ρ a hi ht => h R w I ρ a hi (ht.sub hs)

/-- The operations of a region that does not draw, in their order. -/
def AList (P : Program) (R : Option Nat) (N κ : Nat) (ops : Array Oper) (l : List Oper) (Q : Post) (T : Tm) (H : List Blk) : Prop :=
  ∀ (QX : Exit → Act → World → Prop) B w I ρ a, Inv P w I ρ H → TRel P w I ρ N T a.tmps → Marks κ B w I ρ a.defers → (∀ e a' w', QC κ B P N Q w I ρ e a' w' → QX e a' w') → wpListIn (Fr R) 0 P ops QX l a w

theorem AWp.region {id : Nat} {l : List Oper} (h : AList P R N κ l.toArray l Q T H) : AWp P R N κ (.region id l.toArray false) Q T H :=
  fun B w I ρ a hi ht hm => wpIn_region_lit (h _ B w I ρ a hi ht hm fun _ _ _ q => q)

theorem AList.nil {ops : Array Oper} (h : Q .normal T H) : AList P R N κ ops [] Q T H :=
  fun QX B w I ρ a hi ht hm hq => wpListIn_nil (hq _ _ _ ⟨.normal, I, ρ, T, H, trivial, h, ExtW.refl _ _ _, hi, ht, hm⟩)

theorem Marks.put {κ : Nat} {B : Base} {w : World} {I : Nat → Prop} {ρ : List Nat} {a : Act} {d : Option Nat} {u : Value} (m : Marks κ B w I ρ a.defers) : Marks κ B w I ρ (a.put d u).defers := by
  cases d <;> exact m

theorem AList.cons {ops : Array Oper} {o : Oper} {rest : List Oper} {v : V} {H' : List Blk} (hg : o.guard = none) (hd : dstOk N o.dst = true) (hop : OpJ P N o T H v H')
    (next : AList P R N κ ops rest Q (setT T o.dst v) H') : AList P R N κ ops (o :: rest) Q T H := by
  intro QX B w I ρ a hi ht hm hq
  refine wpListIn_plain hg fun K hK => hop R w I ρ a hi ht K QX fun u w' I' ρ' he hi' hv => hK _ _ ?_
  exact next QX B w' I' ρ' (a.put o.dst u) hi' ((ht.ext he).put hd hv) ((hm.ext he).put) fun e a2 w2 q => hq e a2 w2 (QC.ext he.w q)

/-- The condition under which an operation is carried out. -/
def gslot (ops : Array Oper) (j : Nat) : Option Nat := (ops[j]?).bind (·.dst)

/-- Whether an operation is carried out, by what its condition's slot holds. -/
def gcond (want : Bool) : V → Option Bool
  | .p (.bool b) => some (b == want)
  | .opt g (.p (.bool b)) => some (g && (b == want))
  | _ => none
theorem yielded_of {ops : Array Oper} {w : World} {I : Nat → Prop} {ρ : List Nat} {j s : Nat} {want c : Bool} {x : V} {tmps : Array Value} (hs : gslot ops j = some s) (ht : TRel P w I ρ N T tmps) (hd : dstOk N (some s) = true) (hb : lk T s = some x) (hc : gcond want x = some c) :
    (yielded ops tmps j == some want) = c := by
  have h1 := ht.at_ s _ hb
  have hlt : s < tmps.size := by
    have h0 : s < N := by simpa [dstOk, Nat.blt, Nat.lt_iff_add_one_le] using hd
    rw [ht.size]; exact h0
  have hget : tmps.getD s undef = tmps[s] := by simp [hlt]
  rw [hget] at h1
  have hb1 : ∀ b : Bool, tmps[s] = .bool b → yielded ops tmps j = some b := fun b h => by
    unfold yielded
    unfold gslot at hs
    rw [hs]
    simp [hlt, h]
  have hb2 : tmps[s] = undef → yielded ops tmps j = none := fun h => by
    unfold yielded
    unfold gslot at hs
    rw [hs]
    simp [hlt, h, undef]
  unfold gcond at hc
  split at hc
  · rename_i b
    simp at hc
    rw [hb1 b h1, ← hc]
    cases b <;> cases want <;> rfl
  · rename_i g b
    simp at hc
    cases g with
    | true => rw [hb1 b (h1.1 rfl), ← hc]; cases b <;> cases want <;> rfl
    | false => rw [hb2 (h1.2 rfl), ← hc]; rfl
  · cases hc

/-- T, where a condition holds. -/
def subG : Tm → Tm → Prop
  | [], _ => True
  | (s, v) :: r, T => (lk T s = some v ∨ ∃ g, lk T s = some (.opt g v) ∧ g = true) ∧ subG r T
theorem TRel.subG {w : World} {I : Nat → Prop} {ρ : List Nat} {tmps : Array Value} (ht : TRel P w I ρ N T tmps) : ∀ {T2 : Tm}, AF.subG T2 T → TRel P w I ρ N T2 tmps
  | [], _ => ⟨ht.size, fun s v h => by cases h⟩
  | (s, v) :: r, h => by
    obtain ⟨h1, h2⟩ := h
    have ih := TRel.subG ht h2
    refine ⟨ht.size, fun s' v' h' => ?_⟩
    simp only [lk] at h'
    cases hb : Nat.beq s s' with
    | false => rw [hb] at h'; exact ih.at_ s' v' h'
    | true =>
      rw [hb] at h'
      have := Nat.eq_of_beq_eq_true hb
      subst this
      simp at h'
      subst h'
      rcases h1 with h1 | ⟨g, h1, h3⟩
      · exact ht.at_ s _ h1
      · exact (ht.at_ s _ h1).1 h3

/-- A guarded operation that leaves the own blocks alone: carried out, or not. -/
theorem AList.guard {ops : Array Oper} {o : Oper} {rest : List Oper} {j s : Nat} {want c : Bool} {x v : V} (hg : o.guard = some (j, want)) (hs : gslot ops j = some s) (hd : dstOk N o.dst = true) (hd' : dstOk N (some s) = true)
    (hb : lk T s = some x) (hc : gcond want x = some c) (T2 : Tm) (h2 : c = true → subG T2 T) (hop : c = true → OpJ P N o T2 H v H)
    (next : AList P R N κ ops rest Q (setT T o.dst (.opt c v)) H) : AList P R N κ ops (o :: rest) Q T H := by
  intro QX B w I ρ a hi ht hm hq
  refine wpListIn_step fun K hK => ?_
  simp only [Region.wanted, hg, yielded_of hs ht hd' hb hc]
  cases c with
  | true =>
    simp only [if_true]
    refine hop rfl R w I ρ a hi (ht.subG (h2 rfl)) K QX fun u w' I' ρ' he hi' hv => hK _ _ ?_
    exact next QX B w' I' ρ' (a.put o.dst u) hi' ((ht.ext he).put hd ⟨fun _ => hv, (fun h => by cases h)⟩) ((hm.ext he).put) fun e a2 w2 q => hq e a2 w2 (QC.ext he.w q)
  | false =>
    simp only [Bool.false_eq_true, if_false]
    refine ⟨about_wide, hK _ _ ?_⟩
    exact next QX B w I ρ (a.put o.dst undef) hi (ht.put hd ⟨(fun h => by cases h), fun _ => rfl⟩) hm.put hq

/-- A guarded operation whose condition is known to hold. -/
theorem AList.guardYes {ops : Array Oper} {o : Oper} {rest : List Oper} {j s : Nat} {want c : Bool} {x v : V} {H' : List Blk} (hg : o.guard = some (j, want)) (hs : gslot ops j = some s) (hd : dstOk N o.dst = true) (hd' : dstOk N (some s) = true)
    (hb : lk T s = some x) (hc : gcond want x = some c) (hw : c = true) (hop : OpJ P N o T H v H')
    (next : AList P R N κ ops rest Q (setT T o.dst v) H') : AList P R N κ ops (o :: rest) Q T H := by
  intro QX B w I ρ a hi ht hm hq
  refine wpListIn_step fun K hK => ?_
  subst hw
  simp only [Region.wanted, hg, yielded_of hs ht hd' hb hc, if_true]
  refine hop R w I ρ a hi ht K QX fun u w' I' ρ' he hi' hv => hK _ _ ?_
  exact next QX B w' I' ρ' (a.put o.dst u) hi' ((ht.ext he).put hd hv) ((hm.ext he).put) fun e a2 w2 q => hq e a2 w2 (QC.ext he.w q)

/-- A guarded operation whose condition is known not to hold. -/
theorem AList.guardNo {ops : Array Oper} {o : Oper} {rest : List Oper} {j s : Nat} {want c : Bool} {x : V} (hg : o.guard = some (j, want)) (hs : gslot ops j = some s) (hd : dstOk N o.dst = true) (hd' : dstOk N (some s) = true)
    (hb : lk T s = some x) (hc : gcond want x = some c) (hw : c = false)
    (next : AList P R N κ ops rest Q (setT T o.dst .top) H) : AList P R N κ ops (o :: rest) Q T H := by
  intro QX B w I ρ a hi ht hm hq
  refine wpListIn_step fun K hK => ?_
  subst hw
  simp only [Region.wanted, hg, yielded_of hs ht hd' hb hc, Bool.false_eq_true, if_false]
  refine ⟨about_wide, hK _ _ ?_⟩
  exact next QX B w I ρ (a.put o.dst undef) hi (ht.put hd (by simp [RelV])) hm.put hq

/-! ### Calls -/
def ACalls (P : Program) (f : FuncId) (args : List V) (H : List Blk) (Q : V → List Blk → Prop) : Prop :=
  ∀ w I ρ us, Inv P w I ρ H → RelVL P w I ρ args us → CallsIn Fence.wide 0 P f us.toArray w fun e w' => ∃ u v I' ρ' H', e = .returned u ∧ Q v H' ∧ Ext w I ρ w' I' ρ' ∧ Inv P w' I' ρ' H' ∧ RelV P w' I' ρ' v u

/-- A pure function: immutable data in, immutable data out. -/
def Pure (P : Program) (f : FuncId) (args : List PV) (r : PV) : Prop := ACalls P f (args.map .p) [] fun v H' => v = .p r ∧ H' = []

/-- The results of a function, at its end. -/
def resV (P : Program) (N : Nat) (fn : Func) (T : Tm) (H : List Blk) (v : V) : Prop :=
  ∀ w I ρ (a : Array Value), Inv P w I ρ H → TRel P w I ρ N T a → ∃ u, (results fn a).run P w = .ok u w ∧ RelV P w I ρ v u

def slotsAt : Nat → List V → Tm
  | _, [] => []
  | k, v :: vs => (k, v) :: slotsAt (k + 1) vs

theorem slotsAt_rel {w : World} {I : Nat → Prop} {ρ : List Nat} : ∀ (vs : List V) (us : List Value) (k : Nat) (pre post : List Value), pre.length = k → RelVL P w I ρ vs us → ∀ s v, lk (slotsAt k vs) s = some v → RelV P w I ρ v ((pre ++ us ++ post).toArray.getD s undef)
  | [], _, _, _, _, _, _, s, v, h => by cases h
  | x :: vs, us, k, pre, post, hk, h, s, v, hv => by
    obtain ⟨u, us', rfl, h1, h2⟩ := h
    simp only [slotsAt, lk] at hv
    cases hb : Nat.beq k s with
    | true =>
      rw [hb] at hv
      have := Nat.eq_of_beq_eq_true hb
      subst this
      simp at hv
      subst hv
      subst hk
      simpa using h1
    | false =>
      rw [hb] at hv
      have := slotsAt_rel vs us' (k + 1) (pre ++ [u]) post (by simp [hk]) h2 s v hv
      simpa using this

theorem RelVL.length {w : World} {I : Nat → Prop} {ρ : List Nat} : ∀ {vs : List V} {us : List Value}, RelVL P w I ρ vs us → us.length = vs.length
  | [], us, h => by simp [RelVL] at h; simp [h]
  | _ :: vs, us, h => by
    obtain ⟨u, us', rfl, _, h2⟩ := h
    simp [RelVL.length h2]

theorem Inv.marks {w w' : World} {I : Nat → Prop} {ρ : List Nat} (hi : Inv P w I ρ H) (hsz : w'.heap.size = w.heap.size) (hI : ∀ b, I b → w'.heap[b]? = w.heap[b]?) (hρ : ∀ b : Nat, w.heap[b]? ≠ some (Obj.deferred (some [])) → w'.heap[b]? = w.heap[b]?) (hs : ∀ b s, w.shape? b = some s → w'.shape? b = some s) : Inv P w' I ρ H :=
  ⟨hi.len, fun i b x h1 h2 h3 => by rw [hsz]; exact hi.bnd i b x h1 h2 h3, fun b h => by rw [hsz]; exact hi.ib b h, hi.live, hi.dist,
    fun i b blk h1 h2 => by
      cases hl : blk.live with
      | false => exact RelB.dead_of hl
      | true => exact RelB.mono (fun _ h => h) hI (List.prefix_refl _) (fun b _ s h => hs b s h) (hρ b (not_def hi h1 h2 hl)) (hi.rel i b blk h1 h2)⟩

theorem leaves_marks {F : Fence} {fn : Func} {tmps : Array Value} {Rr : Ending → World → Prop} : ∀ (rs : List Nat) (w : World), rs.Nodup → (∀ r ∈ rs, w.heap[r]? = some (Obj.deferred (some []))) →
    (∀ w', (∀ b, b ∉ rs → w'.heap[b]? = w.heap[b]?) → w'.os = w.os → w'.tape = w.tape → w'.output = w.output → w'.heap.size = w.heap.size → ∃ u, (results fn tmps).run P w' = .ok u w' ∧ Rr (.returned u) w') →
    LeavesInM F 0 P fn tmps Rr (rs.map fun r => { target := .collected r, args := #[] }) .returning w := by
  intro rs
  induction rs with
  | nil =>
    intro w _ _ h
    obtain ⟨u, h1, h2⟩ := h w (fun _ _ => rfl) rfl rfl rfl rfl
    simp only [List.map_nil, LeavesInM, LeavesIn]
    exact ⟨u, h1, h2⟩
  | cons r rs ih =>
    intro w hn hr h
    simp only [List.map_cons, LeavesInM]
    refine ⟨by simp, .inl ⟨r, w.putObj r (.deferred none), rfl, run_takeDeferred (hr r (by simp)), ?_⟩⟩
    have hnd := List.nodup_cons.1 hn
    have hput : ∀ b, b ≠ r → (w.putObj r (.deferred none)).heap[b]? = w.heap[b]? := fun b hb => World.putObj_heap_other (fun e => hb e)
    refine ih _ hnd.2 (fun r' h' => (hput r' (fun e => hnd.1 (e ▸ h'))).trans (hr r' (by simp [h']))) ?_
    intro w' h1 h2 h3 h4 h5
    refine h w' (fun b hb => ?_) h2 h3 h4 (by rw [h5]; simp)
    rw [h1 b (fun e => hb (by simp [e])), hput b (fun e => hb (by simp [e]))]

/-- A function's contract, from its body. -/
theorem ACalls.of_body {f : FuncId} {fn : Func} {c : Code} {args : List V} {Qr : V → List Blk → Prop} (hf : P.funcs[f]? = some fn) (hb : fn.body = some c) (hn : args.length ≤ fn.ntmps)
    (h : AWp P none fn.ntmps H.length c (fun x T' H' => (x = .normal ∨ x = .ret) ∧ ∃ v, resV P fn.ntmps fn T' H' v ∧ Qr v H') (slotsAt 0 args) H) : ACalls P f args H Qr := by
  intro w I ρ us hi hus
  have hl := RelVL.length hus
  refine callsIn_of_wp_marks hf hb trivial ?_ rfl
  have ht : TRel P w I ρ fn.ntmps (slotsAt 0 args) (us.toArray ++ Array.replicate (fn.ntmps - us.toArray.size) undef) := by
    refine ⟨by simp; omega, fun s v hv => ?_⟩
    have := slotsAt_rel args us 0 [] (List.replicate (fn.ntmps - us.length) undef) rfl hus s v hv
    have e : us.toArray ++ Array.replicate (fn.ntmps - us.toArray.size) undef = ([] ++ us ++ List.replicate (fn.ntmps - us.length) undef).toArray := by simp
    rw [e]; exact this
  refine wpIn_mono (h ⟨w.heap.size, ρ⟩ w I ρ { tmps := us.toArray ++ Array.replicate (fn.ntmps - us.toArray.size) undef, defers := [] } hi ht ⟨Nat.le_refl _, Nat.le_of_eq hi.len, List.prefix_refl _, [], rfl, List.nodup_nil, fun _ h => by cases h⟩) ?_
  rintro e a' w' ⟨z, I', ρ', T', H', h1, ⟨h2, v, hv, hq⟩, h3, h4, h5, hB, _, hpre, rs, h6, h7, h8⟩
  have fin : LeavesInM Fence.wide 0 P fn a'.tmps (fun e w' => ∃ u v I' ρ' H', e = .returned u ∧ Qr v H' ∧ Ext w I ρ w' I' ρ' ∧ Inv P w' I' ρ' H' ∧ RelV P w' I' ρ' v u) a'.defers .returning w' := by
    rw [h6]
    refine leaves_marks rs w' h7 (fun r hr => (h8 r hr).1) ?_
    intro w2 k1 k2 k3 k4 k5
    have kI : ∀ b, I' b → w2.heap[b]? = w'.heap[b]? := fun b hb => k1 b (fun hm => (h8 b hm).2.1 hb)
    have kρ : ∀ b : Nat, w'.heap[b]? ≠ some (Obj.deferred (some [])) → w2.heap[b]? = w'.heap[b]? := fun b hb => k1 b (fun hm => hb (h8 b hm).1)
    have ks : ∀ b s, w'.shape? b = some s → w2.shape? b = some s := fun b s hs => by
      refine (shape_of_block (k1 b (fun hm => ?_))).trans hs
      have := (h8 b hm).1
      simp [World.shape?, this] at hs
    have hi2 : Inv P w2 I' ρ' H' := h4.marks k5 kI kρ ks
    have ht2 : TRel P w2 I' ρ' fn.ntmps T' a'.tmps := ⟨h5.size, fun s x hx => RelV.mono (fun _ h => h) kI (List.prefix_refl _) (fun b _ s h => ks b s h) x _ (h5.at_ s x hx)⟩
    obtain ⟨u, hu1, hu2⟩ := hv w2 I' ρ' a'.tmps hi2 ht2
    refine ⟨u, hu1, u, v, I', ρ', H', rfl, hq, ?_, hi2, hu2⟩
    have hlow : ∀ b, b < w.heap.size → w2.heap[b]? = w'.heap[b]? := fun b hb => k1 b (fun hm => by have := (h8 b hm).2.2; simp only at this; omega)
    exact ⟨⟨k2.trans h3.os, k3.trans h3.tape, k4.trans h3.output, by rw [k5]; exact h3.size, fun b hb hn => (hlow b hb).trans (h3.keep b hb hn),
      fun b s hs => ks b s (h3.shape b s hs), h3.imm, fun b hb => (kI b (h3.imm b hb)).trans (h3.immKeep b hb), h3.immNew, fun b hb => (hlow b (Array.getElem?_eq_some_iff.1 hb).1).trans (h3.defKeep b hb), h3.defI, h3.new⟩, hpre⟩
  rcases h2 with rfl | rfl <;> cases e <;> first | exact h1.elim | exact fin

theorem ACalls.mono {f : FuncId} {args : List V} {Qr Qr' : V → List Blk → Prop} (h : ACalls P f args H Qr) (hq : ∀ v H', Qr v H' → Qr' v H') : ACalls P f args H Qr' :=
  fun w I ρ us hi hus => (h w I ρ us hi hus).mono fun _ _ ⟨u, v, J, σ, H', h1, h2, h3⟩ => ⟨u, v, J, σ, H', h1, hq _ _ h2, h3⟩

/-- Own blocks are forgotten where immutable data is handed back. -/
theorem Pure.of_calls {f : FuncId} {args : List PV} {r : PV} (h : ACalls P f (args.map .p) [] fun v _ => v = .p r) : Pure P f args r := by
  intro w I ρ us hi hus
  have hρ : ρ = [] := List.eq_nil_of_length_eq_zero hi.len
  subst hρ
  refine (h w I [] us hi hus).mono ?_
  rintro e w' ⟨u, v, J, σ, H', h1, rfl, h3, h4, h5⟩
  exact ⟨u, _, J, [], [], h1, ⟨rfl, rfl⟩, ⟨⟨h3.w.os, h3.w.tape, h3.w.output, h3.w.size, h3.w.keep, h3.w.shape, h3.w.imm, h3.w.immKeep, h3.w.immNew, h3.w.defKeep, h3.w.defI, (fun _ h => by cases h)⟩, List.prefix_refl _⟩, h4.nothing, h5⟩

/-- A pure function, from its body. -/
theorem Pure.of_body {f : FuncId} {fn : Func} {c : Code} {args : List PV} {r : PV} (hf : P.funcs[f]? = some fn) (hb : fn.body = some c) (hn : args.length ≤ fn.ntmps)
    (h : AWp P none fn.ntmps 0 c (fun x T' H' => (x = .normal ∨ x = .ret) ∧ resV P fn.ntmps fn T' H' (.p r)) (slotsAt 0 (args.map .p)) []) : Pure P f args r :=
  Pure.of_calls (ACalls.of_body hf hb (by simpa using hn) (h.mono fun x T H ⟨h1, h2⟩ => ⟨h1, _, h2, rfl⟩))
end
end Go.AF
