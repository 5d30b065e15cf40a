/-
  An own slice that grew in the caller's place moves to a place of the function's own. No condition; generic over any program.
  Functions that may panic: contracts with two ends; calls of them; a frame rule for calls on some own blocks that may lay new ones. No condition; generic over any program.
  A frame rule: a call that works on the own blocks at some places, live ones or ones that are not laid yet, and may lay new ones. No condition; generic over any program.
  Texts: bytes as lists; own rows that are frozen in part (the buffer of a builder); appending texts. No condition; generic over any program.
  Texts, second part: ranges over texts, conversions, builders, type assertions, panics. No condition; generic over any program.
  Type assertions, panics, the own address of a builder, the text of a buffer. No condition; generic over any program.
  Builders: a struct that holds its own address and a buffer, both nil as long as nothing is written. No condition; generic over any program.
  Functions that defer a call of a closure that may recover. No condition; generic over any program.
  Contracts of the library's shelf as pure functions; type assertions by what a value is. No condition; generic over any program.
  A piece of code that looks at no own block, before and after it: the caller's own blocks stay as they are. No condition; generic over any program.
  Readers: a struct that holds what is left of a text; functions that read it and may panic with one value. No condition; generic over any program.
  Windows of own rows; copying from one to another. No condition; generic over any program.
  Appending to an accumulator what may be empty. No condition; generic over any program.
  An interface that is nil. No condition; generic over any program.
  An own slice that grew in a cell of an own row becomes content there; cells at the end of own rows. No condition; generic over any program.
  What a call hands back as content, taken as own blocks: the zone of all that the call has made. For a call whose arguments hold no reference and whose result is a list of (number, list of numbers): its cells can be written from then on. No condition; generic over any program.
-/
import Derived.Test.YtplofbjppcbchaaDoorFaVD
import Derived.Lib.UnsafeStr
import Derived.Lib.Builder
import Derived.Lib.ConvBytes
import Derived.Laws.BytesString
import Derived.Laws.Externs
import Derived.RecoverIn
import Derived.Sort.Grow
import Derived.Lib.LaidTab
import Derived.Deep.Draws
section
set_option linter.unusedVariables false
set_option linter.unusedSimpArgs false
namespace Go.AF
open Go
section
variable {P : Program} {N κ : Nat} {T : Tm} {H : List Blk}
theorem set_self {l : List Blk} {i : Nat} {x : Blk} (h : l[i]? = some x) : l.set i x = l := by
  apply List.ext_getElem?
  intro j
  rw [List.getElem?_set]
  split
  · rename_i hij
    subst hij
    split
    · exact h.symm
    · rename_i h2; rw [List.getElem?_eq_none (by omega)]
  · rfl
end
end Go.AF
namespace Go.AF
open Go
section
variable {P : Program} {N κ : Nat} {T : Tm} {H : List Blk} {o : Oper}
end
end Go.AF
end

section
set_option linter.unusedVariables false
set_option linter.unusedSimpArgs false
namespace Go.AF
open Go
/-- A function's contract where it may panic: it returns as Qr says, or panics with a value of which Qp holds. -/
def ACallsP (P : Program) (f : FuncId) (args : List V) (H : List Blk) (Qr : V → List Blk → Prop) (Qp : PV → List Blk → Prop) : Prop :=
  ∀ w I ρ us, Inv P w I ρ H → RelVL P w I ρ args us → CallsIn Fence.wide 0 P f us.toArray w fun e w' =>
    (∃ u v I' ρ' H', e = .returned u ∧ Qr v H' ∧ Ext w I ρ w' I' ρ' ∧ Inv P w' I' ρ' H' ∧ RelV P w' I' ρ' v u) ∨
    (∃ u y I' ρ' H', e = .panicked [{ v := u, recovered := false }] ∧ Qp y H' ∧ Ext w I ρ w' I' ρ' ∧ Inv P w' I' ρ' H' ∧ Rel w' I' y u)
def FinOP (P : Program) (N : Nat) (fn : Func) (Qr : V → List Blk → Prop) (Qp : PV → List Blk → Prop) : Post
  | .panic v, _, H => ∃ y, v = .p y ∧ Qp y H
  | x, T, H => FinO P N fn Qr x T H
section
variable {P : Program} {R : Option Nat} {N κ : Nat} {Q : Post} {T : Tm} {H : List Blk} {o : Oper}
theorem ACalls.toP {f : FuncId} {args : List V} {Qr : V → List Blk → Prop} {Qp : PV → List Blk → Prop} (h : ACalls P f args H Qr) : ACallsP P f args H Qr Qp :=
  fun w I ρ us hi hus => (h w I ρ us hi hus).mono fun _ _ hh => .inl hh
theorem leaves_marksP {F : Fence} {fn : Func} {tmps : Array Value} {chain : List PanicEntry} {Rr : Ending → World → Prop} : ∀ (rs : List Nat) (w : World), rs.Nodup → (∀ r ∈ rs, w.heap[r]? = some (Obj.deferred (some []))) →
    (∀ w', (∀ b, b ∉ rs → w'.heap[b]? = w.heap[b]?) → w'.os = w.os → w'.tape = w.tape → w'.output = w.output → w'.heap.size = w.heap.size → Rr (.panicked chain) w') →
    LeavesInM F 0 P fn tmps Rr (rs.map fun r => { target := .collected r, args := #[] }) (.panicking chain) w := by
  intro rs
  induction rs with
  | nil =>
    intro w _ _ h
    have h1 := h w (fun _ _ => rfl) rfl rfl rfl rfl
    simp only [List.map_nil, LeavesInM, LeavesIn]
    exact h1
  | cons r rs ih =>
    intro w hn hr h
    simp only [List.map_cons, LeavesInM]
    refine ⟨by simp, .inl ⟨r, w.putObj r (.deferred none), rfl, run_takeDeferred (hr r (by simp)), ?_⟩⟩
    have hnd := List.nodup_cons.1 hn
    have hput : ∀ b, b ≠ r → (w.putObj r (.deferred none)).heap[b]? = w.heap[b]? := fun b hb => World.putObj_heap_other (fun e => hb e)
    refine ih _ hnd.2 (fun r' h' => (hput r' (fun e => hnd.1 (e ▸ h'))).trans (hr r' (by simp [h']))) ?_
    intro w' h1 h2 h3 h4 h5
    refine h w' (fun b hb => ?_) h2 h3 h4 (by rw [h5]; simp)
    rw [h1 b (fun e => hb (by simp [e])), hput b (fun e => hb (by simp [e]))]
/-- The marks of ranges are taken away at a function's end: nothing else turns. -/
theorem marks_tail {w w' w2 : World} {I I' : Nat → Prop} {ρ ρ' : List Nat} {H' : List Blk} {T' : Tm} {tmps : Array Value} {rs : List Nat} (h3 : ExtW w I ρ w' I' ρ') (h4 : Inv P w' I' ρ' H') (h5 : TRel P w' I' ρ' N T' tmps) (hpre : ρ <+: ρ')
    (h8 : ∀ r ∈ rs, w'.heap[r]? = some (Obj.deferred (some [])) ∧ ¬ I' r ∧ w.heap.size ≤ r) (k1 : ∀ b, b ∉ rs → w2.heap[b]? = w'.heap[b]?) (k2 : w2.os = w'.os) (k3 : w2.tape = w'.tape) (k4 : w2.output = w'.output) (k5 : w2.heap.size = w'.heap.size) :
    Inv P w2 I' ρ' H' ∧ TRel P w2 I' ρ' N T' tmps ∧ Ext w I ρ w2 I' ρ' ∧ ∀ b, I' b → w2.heap[b]? = w'.heap[b]? := by
  have kI : ∀ b, I' b → w2.heap[b]? = w'.heap[b]? := fun b hb => k1 b (fun hm => (h8 b hm).2.1 hb)
  have kρ : ∀ b : Nat, w'.heap[b]? ≠ some (Obj.deferred (some [])) → w2.heap[b]? = w'.heap[b]? := fun b hb => k1 b (fun hm => hb (h8 b hm).1)
  have ks : ∀ b s, w'.shape? b = some s → w2.shape? b = some s := fun b s hs => by
    refine (shape_of_block (k1 b (fun hm => ?_))).trans hs
    have := (h8 b hm).1
    simp [World.shape?, this] at hs
  have hi2 : Inv P w2 I' ρ' H' := h4.marks k5 kI kρ ks
  have ht2 : TRel P w2 I' ρ' N T' tmps := ⟨h5.size, fun s x hx => RelV.mono (fun _ h => h) kI (List.prefix_refl _) (fun b _ s h => ks b s h) x _ (h5.at_ s x hx)⟩
  have hlow : ∀ b, b < w.heap.size → w2.heap[b]? = w'.heap[b]? := fun b hb => k1 b (fun hm => by have := (h8 b hm).2.2; omega)
  exact ⟨hi2, ht2, ⟨⟨k2.trans h3.os, k3.trans h3.tape, k4.trans h3.output, by rw [k5]; exact h3.size, fun b hb hn => (hlow b hb).trans (h3.keep b hb hn),
    fun b s hs => ks b s (h3.shape b s hs), h3.imm, fun b hb => (kI b (h3.imm b hb)).trans (h3.immKeep b hb), h3.immNew, fun b hb => (h3.nf b hb).imp_right fun h => h.of (kI b hb), fun b hb => (hlow b (Array.getElem?_eq_some_iff.1 hb).1).trans (h3.defKeep b hb), h3.defI, h3.new⟩, hpre⟩, kI⟩
/-- A contract with two ends, from the body. -/
theorem ACallsP.start {f : FuncId} {fn : Func} {c : Code} {args : List V} {Qr : V → List Blk → Prop} {Qp : PV → List Blk → Prop} (hf : P.funcs[f]? = some fn) (hb : fn.body = some c) (hN : fn.ntmps = N) (hn : args.length ≤ N)
    (h : AWp P none N H.length c (FinOP P N fn Qr Qp) (slotsAt 0 args) H) : ACallsP P f args H Qr Qp := by
  subst hN
  intro w I ρ us hi hus
  have hl := RelVL.length hus
  refine callsIn_of_wp_marks hf hb trivial ?_ rfl
  have ht : TRel P w I ρ fn.ntmps (slotsAt 0 args) (us.toArray ++ Array.replicate (fn.ntmps - us.toArray.size) undef) := by
    refine ⟨by simp; omega, fun s v hv => ?_⟩
    have := slotsAt_rel args us 0 [] (List.replicate (fn.ntmps - us.length) undef) rfl hus s v hv
    have e : us.toArray ++ Array.replicate (fn.ntmps - us.toArray.size) undef = ([] ++ us ++ List.replicate (fn.ntmps - us.length) undef).toArray := by simp
    rw [e]; exact this
  refine wpIn_mono (h ⟨w.heap.size, ρ, []⟩ w I ρ { tmps := us.toArray ++ Array.replicate (fn.ntmps - us.toArray.size) undef, defers := [] } hi ht ⟨Nat.le_refl _, Nat.le_of_eq hi.len, List.prefix_refl _, [], rfl, List.nodup_nil, fun _ h => by cases h⟩) ?_
  rintro e a' w' ⟨z, I', ρ', T', H', h1, h2, h3, h4, h5, hB, _, hpre, rs, h6, h7, h8⟩
  have fin : (z = .normal ∨ z = .ret) → FinO P fn.ntmps fn Qr z T' H' → LeavesInM Fence.wide 0 P fn a'.tmps (fun e w' =>
      (∃ u v I' ρ' H', e = .returned u ∧ Qr v H' ∧ Ext w I ρ w' I' ρ' ∧ Inv P w' I' ρ' H' ∧ RelV P w' I' ρ' v u) ∨
      (∃ u y I' ρ' H', e = .panicked [{ v := u, recovered := false }] ∧ Qp y H' ∧ Ext w I ρ w' I' ρ' ∧ Inv P w' I' ρ' H' ∧ Rel w' I' y u)) a'.defers .returning w' := by
    rintro _ ⟨_, v, hv, hq⟩
    rw [h6]
    show LeavesInM _ _ _ _ _ _ (_ ++ []) _ _
    rw [List.append_nil]
    refine leaves_marks rs w' h7 (fun r hr => (h8 r hr).1) ?_
    intro w2 k1 k2 k3 k4 k5
    obtain ⟨hi2, ht2, hE2, _⟩ := marks_tail h3 h4 h5 hpre h8 k1 k2 k3 k4 k5
    obtain ⟨u, hu1, hu2⟩ := hv w2 I' ρ' a'.tmps hi2 ht2
    exact ⟨u, hu1, .inl ⟨u, v, I', ρ', H', rfl, hq, hE2, hi2, hu2⟩⟩
  cases z with
  | normal => cases e <;> first | exact h1.elim | exact fin (.inl rfl) h2
  | ret => cases e <;> first | exact h1.elim | exact fin (.inr rfl) h2
  | exit i => exact absurd h2.1 (by rintro (h | h) <;> cases h)
  | panic v =>
    cases e <;> first | exact h1.elim | skip
    obtain ⟨y, rfl, hy⟩ := h2
    obtain ⟨u, rfl, hu⟩ := h1
    show LeavesInM _ _ _ _ _ _ _ _ _
    rw [h6]
    show LeavesInM _ _ _ _ _ _ (_ ++ []) _ _
    rw [List.append_nil]
    refine leaves_marksP rs w' h7 (fun r hr => (h8 r hr).1) ?_
    intro w2 k1 k2 k3 k4 k5
    obtain ⟨hi2, ht2, hE2, kI⟩ := marks_tail h3 h4 h5 hpre h8 k1 k2 k3 k4 k5
    exact .inr ⟨u, y, I', ρ', H', rfl, hy, hE2, hi2, Rel.mono (fun _ h => h) kI _ _ hu⟩
/-- A call of a function that may panic, on all own blocks. -/
theorem AList.callP (d : Nat) {ops : Array Oper} {rest : List Oper} {f : Operand} {xs : Array Operand} {ts : Array TypeId} {fv : V} {vs all : List V} {g : FuncId} {Qr : V → List Blk → Prop} {Qp : PV → List Blk → Prop} (hp : ACallsP P g all H Qr Qp) (ho : o.op = .call { callee := .value f, args := xs, argTypes := ts }) (hd : o.dst = some d) (hN : dstOk N (some d) = true) (hgd : o.guard = none) (hf : ev T f = some fv)
    (hxs : evs T xs.toList = some vs) (hc : callee vs fv = some (g, all)) (hg : realFn P g = true) (hpan : ∀ y H', Qp y H' → Q (.panic (.p y)) T H') (next : ∀ v H', Qr v H' → AList P R N κ ops rest Q ((d, v) :: T) H') : AList P R N κ ops (o :: rest) Q T H := by
  intro QX B w I ρ a hi ht hm hq
  refine wpListIn_plain hgd fun K hK => ?_
  refine ⟨about_wide, ?_⟩
  rw [semAt_plain _ _ _ (by simp [ho])]
  obtain ⟨us, h1, h2⟩ := run_callOp ho ht hf hxs hc hg
  rw [h2]
  refine ⟨(fun h => by cases h), ?_⟩
  refine CallsIn.mono (callsIn_fr R (hp w I ρ us hi h1)) ?_
  rintro e w' (⟨u, v', J, σ, H2, rfl, hQ, h3, h4, h5⟩ | ⟨u, y, J, σ, H2, rfl, hQ, h3, h4, h5⟩)
  · refine hK _ _ ?_
    refine next v' H2 hQ QX B w' J σ (a.put o.dst u) h4 (by rw [hd]; exact (ht.ext h3).put hN h5) ((hm.ext h3).put) fun e a2 w2 q => hq e a2 w2 (QC.ext h3.w q)
  · refine hq _ _ _ ⟨.panic (.p y), J, σ, T, H2, ⟨u, rfl, h5⟩, hpan y H2 hQ, h3.w, h4, ht.ext h3, hm.ext h3⟩
end
end Go.AF
end

section
set_option linter.unusedVariables false
set_option linter.unusedSimpArgs false
namespace Go.AF
open Go
/-- The places of own blocks, as a call numbers them: of those that are live. -/
def plL (H : List Blk) (ks : List Nat) (i : Nat) : Option Nat := if (H.getD i .dead).live = true then pl ks i else none
/-- And back: new blocks come behind all others. -/
def tauK (H : List Blk) (ks : List Nat) (j : Nat) : Option Nat := match ks[j]? with
  | some i => if (H.getD i .dead).live = true then some i else none
  | none => some (H.length + (j - ks.length))
def backK (H : List Blk) (ks : List Nat) (H' : List Blk) : List Blk := putK H ks ((H'.take ks.length).map (renB (tauK H ks))) ++ (H'.drop ks.length).map (renB (tauK H ks))
section
variable {P : Program} {R : Option Nat} {N κ : Nat} {Q : Post} {T : Tm} {H : List Blk} {o : Oper}
theorem ACallsP.frame {g : FuncId} {args args0 : List V} {H0 : List Blk} {Qr : V → List Blk → Prop} {Qp : PV → List Blk → Prop} (ks : List Nat) (hp : ACallsP P g args0 H0 Qr Qp) (ha : renL (plL H ks) args = args0) (h0 : (ks.map fun i => renB (plL H ks) (H.getD i .dead)) = H0)
    (hks : (ks.all (fun i => Nat.blt i H.length) && decide ks.Nodup) = true)
    (hQ : ∀ v H', Qr v H' → ks.length ≤ H'.length ∧ ∀ (j i : Nat) (y : Blk), ks[j]? = some i → (H.getD i .dead).live = false → H'[j]? = some y → y.live = false) :
    ACallsP P g args H (fun v H' => ∃ v0 H0', Qr v0 H0' ∧ v = renV (tauK H ks) v0 ∧ H' = backK H ks H0') (fun y H' => (∃ H0', Qp y H0') ∧ H' = putK H ks (ks.map fun _ => Blk.dead)) := by
  intro w I ρ us hi hus
  simp only [Bool.and_eq_true, List.all_eq_true, decide_eq_true_eq] at hks
  have hlt : ∀ i ∈ ks, i < H.length := fun i h => by have := hks.1 i h; simpa [Nat.blt, Nat.lt_iff_add_one_le] using this
  have hget : ∀ i, i < H.length → H[i]? = some (H.getD i .dead) := fun i h => by simp [h]
  obtain ⟨ρ2, eρ2⟩ : ∃ ρ2, ρ2 = ks.map fun i => if (H.getD i .dead).live = true then ρ.getD i 0 else w.heap.size := ⟨_, rfl⟩
  have hlen2 : ρ2.length = ks.length := by rw [eρ2, List.length_map]
  have hρ2 : ∀ j i : Nat, ks[j]? = some i → (H.getD i .dead).live = true → ρ2[j]? = ρ[i]? := fun j i h hl => by
    have h1 : i < ρ.length := by rw [hi.len]; exact hlt i (List.mem_of_getElem? h)
    rw [eρ2, List.getElem?_map, h]
    show some (if (H.getD i .dead).live = true then ρ.getD i 0 else w.heap.size) = _
    rw [if_pos hl]
    simp [h1]
  have hρd : ∀ j i : Nat, ks[j]? = some i → (H.getD i .dead).live = false → ρ2[j]? = some w.heap.size := fun j i h hl => by
    rw [eρ2, List.getElem?_map, h]
    show some (if (H.getD i .dead).live = true then ρ.getD i 0 else w.heap.size) = _
    rw [if_neg (by rw [hl]; decide)]
  have hmem2 : ∀ b, b ∈ ρ2 → b ∈ ρ ∨ b = w.heap.size := fun b hb => by
    obtain ⟨j, hj, e⟩ := List.getElem_of_mem hb
    have hjk : j < ks.length := by rw [← hlen2]; exact hj
    have e2 : ρ2[j]? = some b := by rw [List.getElem?_eq_getElem hj, e]
    cases hl : (H.getD ks[j] .dead).live with
    | true =>
      rw [hρ2 j ks[j] (List.getElem?_eq_getElem hjk) hl] at e2
      exact .inl (List.mem_of_getElem? e2)
    | false =>
      rw [hρd j ks[j] (List.getElem?_eq_getElem hjk) hl] at e2
      exact .inr (Option.some.inj e2).symm
  have hσ : ∀ i j b : Nat, plL H ks i = some j → ρ[i]? = some b → ρ2[j]? = some b := fun i j b h hb => by
    unfold plL at h
    split at h
    · rename_i hl
      rw [hρ2 j i (pl_get h) hl]; exact hb
    · cases h
  have hat : ∀ (j b : Nat) (blk : Blk), ρ2[j]? = some b → H0[j]? = some blk → ∃ i x, ks[j]? = some i ∧ H[i]? = some x ∧ blk = renB (plL H ks) x ∧ (x.live = true → ρ[i]? = some b) := by
    intro j b blk h1 h2
    rw [← h0, List.getElem?_map, Option.map_eq_some_iff] at h2
    obtain ⟨i, h3, rfl⟩ := h2
    have h4 := hlt i (List.mem_of_getElem? h3)
    exact ⟨i, _, h3, hget i h4, rfl, fun hl => by rw [← hρ2 j i h3 hl]; exact h1⟩
  have hsub : Inv P w I ρ2 H0 := by
    refine ⟨by rw [hlen2, ← h0, List.length_map], fun j b blk h1 h2 h3 => ?_, hi.ib, fun j b blk h1 h2 h3 => ?_, fun j j' b x y h1 h2 h3 h4 h5 h6 => ?_, fun j b blk h1 h2 => ?_, hi.gl⟩
    · obtain ⟨i, x, h4, h5, rfl, h6⟩ := hat j b blk h1 h2
      rw [renB_live] at h3
      exact hi.bnd i b x (h6 h3) h5 h3
    · obtain ⟨i, x, h4, h5, rfl, h6⟩ := hat j b blk h1 h2
      rw [renB_live] at h3
      exact hi.live i b x (h6 h3) h5 h3
    · obtain ⟨i, x', h7, h8, rfl, h9⟩ := hat j b x h1 h3
      obtain ⟨i', y', k7, k8, rfl, k9⟩ := hat j' b y h2 h4
      rw [renB_live] at h5 h6
      have := hi.dist i i' b x' y' (h9 h5) (k9 h6) h8 k8 h5 h6
      subst this
      exact (List.getElem?_inj (List.getElem?_eq_some_iff.1 h7).1 hks.2).1 (h7.trans k7.symm)
    · obtain ⟨i, x, h4, h5, rfl, h6⟩ := hat j b blk h1 h2
      cases hl : x.live with
      | true => exact renB_rel hσ (hi.rel i b x (h6 hl) h5)
      | false => exact RelB.dead_of (by rw [renB_live]; exact hl)
  have hargs : RelVL P w I ρ2 args0 us := by rw [← ha]; exact renL_rel hσ args us hus
  -- what an own block that is at none of the places has, stays
  have hfar : ∀ (i b : Nat) (x : Blk), ρ[i]? = some b → H[i]? = some x → x.live = true → i ∉ ks → b ∉ ρ2 := fun i b x g1 g2 g3 g4 hb => by
    obtain ⟨j, hj, e⟩ := List.getElem_of_mem hb
    have hjk : j < ks.length := by rw [← hlen2]; exact hj
    have e2 : ρ2[j]? = some b := by rw [List.getElem?_eq_getElem hj, e]
    have hkj := List.getElem?_eq_getElem hjk
    have hbs := hi.bnd i b x g1 g2 g3
    cases hl : (H.getD ks[j] .dead).live with
    | true =>
      rw [hρ2 j ks[j] hkj hl] at e2
      have h5 := hlt ks[j] (List.mem_of_getElem? hkj)
      have := hi.dist i ks[j] b x _ g1 e2 g2 (hget _ h5) g3 hl
      rw [this] at g4
      exact g4 (List.getElem_mem _)
    | false =>
      rw [hρd j ks[j] hkj hl] at e2
      have := Option.some.inj e2
      omega
  refine CallsIn.mono (hp w I _ us hsub hargs) ?_
  rintro e w' (⟨u, v0, J, σ, H2, rfl, hq, h3, h4, h5⟩ | ⟨u, y, J, σ, H2, rfl, hy, h3, h4, h5⟩)
  · left
    obtain ⟨hl2, hdead⟩ := hQ _ _ hq
    obtain ⟨ext, hext⟩ := h3.pre
    subst hext
    have hσlen : (ρ2 ++ ext).length = H2.length := h4.len
    rw [List.length_append, hlen2] at hσlen
    have hleft : ∀ j, j < ks.length → (ρ2 ++ ext)[j]? = ρ2[j]? := fun j hj => List.getElem?_append_left (by rw [hlen2]; exact hj)
    have hright : ∀ j, (ρ2 ++ ext)[ks.length + j]? = ext[j]? := fun j => by rw [List.getElem?_append_right (by rw [hlen2]; omega), hlen2, Nat.add_sub_cancel_left]
    have hright' : ∀ j, (ρ ++ ext)[H.length + j]? = ext[j]? := fun j => by rw [List.getElem?_append_right (by rw [hi.len]; omega), hi.len, Nat.add_sub_cancel_left]
    have hτ : ∀ j i b : Nat, tauK H ks j = some i → (ρ2 ++ ext)[j]? = some b → (ρ ++ ext)[i]? = some b := fun j i b h hb => by
      unfold tauK at h
      split at h
      · rename_i i' hk
        split at h
        · rename_i hl
          cases h
          have hjk := (List.getElem?_eq_some_iff.1 hk).1
          rw [hleft j hjk, hρ2 j i hk hl] at hb
          exact pre_get ⟨ext, rfl⟩ hb
        · cases h
      · rename_i hk
        cases h
        have hjk : ks.length ≤ j := by simpa using hk
        obtain ⟨m, rfl⟩ : ∃ m, j = ks.length + m := ⟨j - ks.length, by omega⟩
        rw [hright] at hb
        rw [Nat.add_sub_cancel_left, hright']
        exact hb
    have hnewx : ∀ b, b ∈ ext → b ∈ ρ ∨ w.heap.size ≤ b := fun b hb => by
      rcases h3.w.new b (List.mem_append_right _ hb) with h | h
      · rcases hmem2 b h with h | h
        · exact .inl h
        · exact .inr (by omega)
      · exact .inr h
    have hE : Ext w I ρ w' J (ρ ++ ext) := ⟨⟨h3.w.os, h3.w.tape, h3.w.output, h3.w.size, fun b g1 g2 => h3.w.keep b g1 fun h => by
        rcases hmem2 b h with h | h
        · exact g2 h
        · omega, h3.w.shape, h3.w.imm, h3.w.immKeep, fun b h => by
      rcases h3.w.immNew b h with h | h | h
      · exact .inl h
      · rcases hmem2 b h with h | h
        · exact .inr (.inl h)
        · exact .inr (.inr (by omega))
      · exact .inr (.inr h), h3.w.nf, h3.w.defKeep, h3.w.defI, fun b h => by
      rcases List.mem_append.1 h with h | h
      · exact .inl h
      · exact hnewx b h⟩, ⟨ext, rfl⟩⟩
    have hout : ∀ (i b : Nat) (x : Blk), ρ[i]? = some b → H[i]? = some x → x.live = true → i ∉ ks → b ∉ ρ2 ++ ext := fun i b x g1 g2 g3 g4 hb => by
      rcases List.mem_append.1 hb with h | h
      · exact hfar i b x g1 g2 g3 g4 h
      · have hbs := hi.bnd i b x g1 g2 g3
        rcases h3.w.new b (List.mem_append_right _ h) with h | h
        · exact hfar i b x g1 g2 g3 g4 h
        · omega
    have hHl : (putK H ks ((H2.take ks.length).map (renB (tauK H ks)))).length = H.length := putK_length _ _ _
    have hat2 : ∀ (i : Nat) (blk : Blk), (backK H ks H2)[i]? = some blk → blk.live = true → (∃ (j : Nat) (x : Blk), H2[j]? = some x ∧ blk = renB (tauK H ks) x ∧ (ρ2 ++ ext)[j]? = (ρ ++ ext)[i]? ∧ (ks[j]? = some i ∨ (ks.length ≤ j ∧ i = H.length + (j - ks.length)))) ∨ (i < H.length ∧ i ∉ ks ∧ H[i]? = some blk) := fun i blk h hlv => by
      unfold backK at h
      rcases Nat.lt_or_ge i H.length with hil | hil
      · rw [List.getElem?_append_left (by rw [hHl]; exact hil)] at h
        rcases putK_get ks _ H i blk hks.2 (by rw [List.length_map, List.length_take]; omega) h with ⟨j, g1, g2⟩ | ⟨g1, g2⟩
        · left
          rw [List.getElem?_map, Option.map_eq_some_iff] at g2
          obtain ⟨x, g3, rfl⟩ := g2
          have hjk := (List.getElem?_eq_some_iff.1 g1).1
          rw [List.getElem?_take_of_lt hjk] at g3
          rw [renB_live] at hlv
          have hlive : (H.getD i .dead).live = true := by
            cases hl : (H.getD i .dead).live with
            | true => rfl
            | false => rw [hdead j i x g1 hl g3] at hlv; cases hlv
          refine ⟨j, x, g3, rfl, ?_, .inl g1⟩
          rw [hleft j hjk, hρ2 j i g1 hlive, List.getElem?_append_left (by rw [hi.len]; exact hil)]
        · exact .inr ⟨hil, g1, g2⟩
      · left
        rw [List.getElem?_append_right (by rw [hHl]; exact hil), hHl, List.getElem?_map, Option.map_eq_some_iff] at h
        obtain ⟨x, g3, rfl⟩ := h
        rw [List.getElem?_drop] at g3
        obtain ⟨m, rfl⟩ : ∃ m, i = H.length + m := ⟨i - H.length, by omega⟩
        rw [Nat.add_sub_cancel_left] at g3
        exact ⟨ks.length + m, x, g3, rfl, by rw [hright, hright'], .inr ⟨by omega, by omega⟩⟩
    have hI : Inv P w' J (ρ ++ ext) (backK H ks H2) := by
      refine ⟨?_, fun i b blk g1 g2 g3 => ?_, h4.ib, fun i b blk g1 g2 g3 => ?_, fun i i' b x y g1 g2 g3 g4 g5 g6 => ?_, fun i b blk g1 g2 => ?_, h4.gl⟩
      · unfold backK
        rw [List.length_append, List.length_append, hHl, List.length_map, List.length_drop, hi.len]
        omega
      · rcases hat2 i blk g2 g3 with ⟨j, x, k1, rfl, k3, k4⟩ | ⟨k0, k1, k2⟩
        · exact h4.bnd j b x (by rw [k3]; exact g1) k1 (by rwa [renB_live] at g3)
        · rw [List.getElem?_append_left (by rw [hi.len]; exact k0)] at g1
          exact Nat.lt_of_lt_of_le (hi.bnd i b blk g1 k2 g3) h3.w.size
      · rcases hat2 i blk g2 g3 with ⟨j, x, k1, rfl, k3, k4⟩ | ⟨k0, k1, k2⟩
        · exact h4.live j b x (by rw [k3]; exact g1) k1 (by rwa [renB_live] at g3)
        · rw [List.getElem?_append_left (by rw [hi.len]; exact k0)] at g1
          intro hJ
          rcases h3.w.immNew b hJ with h | h | h
          · exact hi.live i b blk g1 k2 g3 h
          · exact hfar i b blk g1 k2 g3 k1 h
          · have := hi.bnd i b blk g1 k2 g3; omega
      · rcases hat2 i x g3 g5 with ⟨j, x', k1, rfl, k3, k4⟩ | ⟨k0, k1, k2⟩ <;> rcases hat2 i' y g4 g6 with ⟨j', y', m1, rfl, m3, m4⟩ | ⟨m0, m1, m2⟩
        · rw [renB_live] at g5 g6
          have := h4.dist j j' b x' y' (by rw [k3]; exact g1) (by rw [m3]; exact g2) k1 m1 g5 g6
          subst this
          rcases k4 with k4 | ⟨k4, k5⟩ <;> rcases m4 with m4 | ⟨m4, m5⟩
          · rw [k4] at m4; exact Option.some.inj m4
          · have := (List.getElem?_eq_some_iff.1 k4).1; omega
          · have := (List.getElem?_eq_some_iff.1 m4).1; omega
          · omega
        · rw [List.getElem?_append_left (by rw [hi.len]; exact m0)] at g2
          exact absurd (List.mem_of_getElem? (by rw [k3]; exact g1)) (hout i' b y g2 m2 g6 m1)
        · rw [List.getElem?_append_left (by rw [hi.len]; exact k0)] at g1
          exact absurd (List.mem_of_getElem? (by rw [m3]; exact g2)) (hout i b x g1 k2 g5 k1)
        · rw [List.getElem?_append_left (by rw [hi.len]; exact k0)] at g1
          rw [List.getElem?_append_left (by rw [hi.len]; exact m0)] at g2
          exact hi.dist i i' b x y g1 g2 k2 m2 g5 g6
      · cases hlv : blk.live with
        | false => exact RelB.dead_of hlv
        | true =>
          rcases hat2 i blk g2 hlv with ⟨j, x, k1, rfl, k3, k4⟩ | ⟨k0, k1, k2⟩
          · exact renB_rel hτ (h4.rel j b x (by rw [k3]; exact g1) k1)
          · rw [List.getElem?_append_left (by rw [hi.len]; exact k0)] at g1
            exact RelB.mono h3.w.imm h3.w.immKeep ⟨ext, rfl⟩ (fun b _ s hs => h3.w.shape b s hs) (h3.w.keep b (hi.bnd i b blk g1 k2 hlv) (hfar i b blk g1 k2 hlv k1)) (hi.rel i b blk g1 k2)
    exact ⟨u, _, J, ρ ++ ext, _, rfl, ⟨v0, H2, hq, rfl, rfl⟩, hE, hI, renV_rel hτ v0 u h5⟩
  · right
    have hE : Ext w I ρ w' J ρ := ⟨⟨h3.w.os, h3.w.tape, h3.w.output, h3.w.size, fun b g1 g2 => h3.w.keep b g1 fun h => by
        rcases hmem2 b h with h | h
        · exact g2 h
        · omega, h3.w.shape, h3.w.imm, h3.w.immKeep, fun b h => by
      rcases h3.w.immNew b h with h | h | h
      · exact .inl h
      · rcases hmem2 b h with h | h
        · exact .inr (.inl h)
        · exact .inr (.inr (by omega))
      · exact .inr (.inr h), h3.w.nf, h3.w.defKeep, h3.w.defI, fun b h => .inl h⟩, List.prefix_refl _⟩
    have hat3 : ∀ (i : Nat) (blk : Blk), (putK H ks (ks.map fun _ => Blk.dead))[i]? = some blk → blk.live = true → i ∉ ks ∧ H[i]? = some blk := fun i blk h hlv => by
      rcases putK_get ks _ H i blk hks.2 (by rw [List.length_map]) h with ⟨j, g1, g2⟩ | g
      · rw [List.getElem?_map, Option.map_eq_some_iff] at g2
        obtain ⟨_, _, rfl⟩ := g2
        cases hlv
      · exact g
    refine ⟨u, y, J, ρ, putK H ks (ks.map fun _ => Blk.dead), rfl, ⟨⟨_, hy⟩, rfl⟩, hE, ⟨by rw [putK_length, hi.len], fun i b blk g1 g2 g3 => ?_, h4.ib, fun i b blk g1 g2 g3 => ?_, fun i i' b x z g1 g2 g3 g4 g5 g6 => ?_, fun i b blk g1 g2 => ?_, h4.gl⟩, h5⟩
    · obtain ⟨k1, k2⟩ := hat3 i blk g2 g3
      exact Nat.lt_of_lt_of_le (hi.bnd i b blk g1 k2 g3) h3.w.size
    · obtain ⟨k1, k2⟩ := hat3 i blk g2 g3
      intro hJ
      rcases h3.w.immNew b hJ with h | h | h
      · exact hi.live i b blk g1 k2 g3 h
      · exact hfar i b blk g1 k2 g3 k1 h
      · have := hi.bnd i b blk g1 k2 g3; omega
    · obtain ⟨k1, k2⟩ := hat3 i x g3 g5
      obtain ⟨m1, m2⟩ := hat3 i' z g4 g6
      exact hi.dist i i' b x z g1 g2 k2 m2 g5 g6
    · cases hlv : blk.live with
      | false => exact RelB.dead_of hlv
      | true =>
        obtain ⟨k1, k2⟩ := hat3 i blk g2 hlv
        exact RelB.mono h3.w.imm h3.w.immKeep (List.prefix_refl _) (fun b _ s hs => h3.w.shape b s hs) (h3.w.keep b (hi.bnd i b blk g1 k2 hlv) (hfar i b blk g1 k2 hlv k1)) (hi.rel i b blk g1 k2)
/-- A call on the own blocks at some places. -/
theorem AList.callPK (d : Nat) (ks : List Nat) {args0 : List V} {H0 : List Blk} {ops : Array Oper} {rest : List Oper} {f : Operand} {xs : Array Operand} {ts : Array TypeId} {fv : V} {vs all : List V} {g : FuncId} {Qr : V → List Blk → Prop} {Qp : PV → List Blk → Prop} (hp : ACallsP P g args0 H0 Qr Qp) (ha : renL (plL H ks) all = args0) (h0 : (ks.map fun i => renB (plL H ks) (H.getD i .dead)) = H0)
    (hks : (ks.all (fun i => Nat.blt i H.length) && decide ks.Nodup) = true)
    (hQ : ∀ v H', Qr v H' → ks.length ≤ H'.length ∧ ∀ (j i : Nat) (y : Blk), ks[j]? = some i → (H.getD i .dead).live = false → H'[j]? = some y → y.live = false)
    (ho : o.op = .call { callee := .value f, args := xs, argTypes := ts }) (hd : o.dst = some d) (hN : dstOk N (some d) = true) (hgd : o.guard = none) (hf : ev T f = some fv)
    (hxs : evs T xs.toList = some vs) (hc : callee vs fv = some (g, all)) (hg : realFn P g = true) (hpan : ∀ y H0', Qp y H0' → Q (.panic (.p y)) T (putK H ks (ks.map fun _ => Blk.dead))) (next : ∀ v H', Qr v H' → AList P R N κ ops rest Q ((d, renV (tauK H ks) v) :: T) (backK H ks H')) : AList P R N κ ops (o :: rest) Q T H :=
  AList.callP d (hp.frame ks ha h0 hks hQ) ho hd hN hgd hf hxs hc hg (fun y H' ⟨⟨H0', h⟩, e⟩ => by subst e; exact hpan y H0' h) fun v H' ⟨v0, H0', hq, e1, e2⟩ => by
    subst e1
    subst e2
    exact next v0 H0' hq
end
end Go.AF
end

section
set_option linter.unusedVariables false
set_option linter.unusedSimpArgs false
namespace Go.AF
open Go
/-! ### Texts as lists of bytes -/
theorem loop_eq (bs : ByteArray) : ∀ (n i : Nat) (r : List UInt8), bs.size - i = n → ByteArray.toList.loop bs i r = r.reverse ++ bs.data.toList.drop i := by
  intro n
  induction n with
  | zero =>
    intro i r h
    unfold ByteArray.toList.loop
    rw [if_neg (by omega)]
    have : bs.data.toList.drop i = [] := List.drop_eq_nil_of_le (by rw [Array.length_toList]; show bs.size ≤ i; omega)
    rw [this, List.append_nil]
  | succ n ih =>
    intro i r h
    unfold ByteArray.toList.loop
    rw [if_pos (by omega), ih (i + 1) _ (by omega)]
    have hi : i < bs.data.toList.length := by rw [Array.length_toList]; show i < bs.size; omega
    rw [List.drop_eq_getElem_cons hi]
    have : bs.get! i = bs.data.toList[i] := by
      show bs.data[i]! = _
      have h2 : i < bs.data.size := by rw [← Array.length_toList]; exact hi
      rw [getElem!_pos bs.data i h2]
      rfl
    rw [this]
    simp
theorem toList_data (bs : ByteArray) : bs.toList = bs.data.toList := by
  unfold ByteArray.toList
  rw [loop_eq bs _ 0 [] rfl]
  rfl
def sB (l : List UInt8) : ByteArray := ⟨l.toArray⟩
theorem sB_toList (l : List UInt8) : (sB l).toList = l := toList_data _
theorem sB_size (l : List UInt8) : (sB l).size = l.length := rfl
theorem sB_app (a b : List UInt8) : sB a ++ sB b = sB (a ++ b) := by
  apply ByteArray.ext
  rw [ByteArray.data_append]
  simp [sB]
theorem sB_ext (l : List UInt8) (i j : Nat) : (sB l).extract i j = sB ((l.drop i).take (j - i)) := by
  apply ByteArray.ext
  simp [sB]
theorem sB_get (l : List UInt8) (i : Nat) : (sB l)[i]? = l[i]? := by
  show (if h : i < (sB l).size then some ((sB l).get i h) else none) = _
  split
  · rename_i h
    have h2 : i < l.length := h
    rw [List.getElem?_eq_getElem h2]
    rfl
  · rename_i h
    have h2 : l.length ≤ i := Nat.le_of_not_lt h
    rw [List.getElem?_eq_none h2]
/-- Bytes as cells. -/
def bP (l : List UInt8) : List PV := l.map fun b => .int .u8 b.toNat
def bV (l : List UInt8) : List V := (bP l).map .p
theorem bP_length (l : List UInt8) : (bP l).length = l.length := by simp [bP]
theorem bV_length (l : List UInt8) : (bV l).length = l.length := by simp [bV, bP]
theorem bV_append (a b : List UInt8) : bV (a ++ b) = bV a ++ bV b := by simp [bV, bP]
theorem bV_one (l : List UInt8) : (bV l).all oneV = true := by
  simp only [bV, bP, List.map_map, List.all_map, List.all_eq_true]
  intro x _
  rfl
theorem renL_bV (σ : Nat → Option Nat) (l : List UInt8) : renL σ (bV l) = bV l := renL_pure σ (bP l)
section
variable {P : Program} {R : Option Nat} {N κ : Nat} {Q : Post} {T : Tm} {H H' : List Blk} {o : Oper}
theorem bV_rel {w : World} {I : Nat → Prop} {ρ : List Nat} : ∀ (l : List UInt8), RelVL P w I ρ (bV l) (Lib.byteCells l)
  | [] => rfl
  | b :: l => ⟨_, _, rfl, rfl, bV_rel l⟩
theorem bV_rel_eq {w : World} {I : Nat → Prop} {ρ : List Nat} : ∀ (l : List UInt8) (us : List Value), RelVL P w I ρ (bV l) us → us = Lib.byteCells l
  | [], us, h => h
  | b :: l, us, h => by
    obtain ⟨u, us', rfl, h1, h2⟩ := h
    rw [bV_rel_eq l us' h2, show u = Value.int .u8 b.toNat from h1]
    rfl
theorem OpJ.strEq {x y : Operand} {t t' : TypeId} (a b : List UInt8) (ho : o.op = .binOp .eql t x y t') (hx : ev T x = some (.p (.str (sB a)))) (hy : ev T y = some (.p (.str (sB b)))) : OpJ P N o T H (.p (.bool (decide (a = b)))) H :=
  OpJ.of_pure (by simp [ho]) fun w I ρ ac hi ht =>
    ⟨.bool (decide (a = b)), by
      simp [execOp, ho, ev_str ht hx, ev_str ht hy, eqGuard, Go.binOp, Op.stringOp]
      rw [sB_toList, sB_toList]
      by_cases h : a = b
      · subst h; simp
      · simp [h], by simp [RelV, Rel]⟩
theorem OpJ.strNe {x y : Operand} {t t' : TypeId} (a b : List UInt8) (ho : o.op = .binOp .neq t x y t') (hx : ev T x = some (.p (.str (sB a)))) (hy : ev T y = some (.p (.str (sB b)))) : OpJ P N o T H (.p (.bool (!decide (a = b)))) H :=
  OpJ.of_pure (by simp [ho]) fun w I ρ ac hi ht =>
    ⟨.bool (!decide (a = b)), by
      simp [execOp, ho, ev_str ht hx, ev_str ht hy, eqGuard, Go.binOp, Op.stringOp]
      rw [sB_toList, sB_toList]
      by_cases h : a = b
      · subst h; simp
      · simp [h], by simp [RelV, Rel]⟩
theorem OpJ.strAdd {x y : Operand} {t t' : TypeId} (a b : List UInt8) (ho : o.op = .binOp .add t x y t') (hx : ev T x = some (.p (.str (sB a)))) (hy : ev T y = some (.p (.str (sB b)))) (hb : a.length + b.length < 9223372036854775808) : OpJ P N o T H (.p (.str (sB (a ++ b)))) H :=
  OpJ.of_pure (by simp [ho]) fun w I ρ ac hi ht =>
    ⟨.string (sB (a ++ b)), by
      have hmax : IntKind.i64.max = 9223372036854775807 := rfl
      have h1 : ¬ (9223372036854775807 < (a.length : Int) + (b.length : Int)) := by omega
      simp [execOp, ho, ev_str ht hx, ev_str ht hy, eqGuard, Go.binOp, Op.stringOp, sB_size, hmax, h1, sB_app], by simp [RelV, Rel]⟩
/-- A type of texts. -/
def strI (P : Program) (t : TypeId) : Bool := match P.underlying t with
  | some .string => true
  | _ => false
theorem strI_some {t : TypeId} (h : strI P t = true) : P.underlying t = some .string := by
  unfold strI at h
  cases hu : P.underlying t with
  | none => simp [hu] at h
  | some d => cases d <;> simp [hu] at h; rfl
theorem OpJ.strIx {x y : Operand} {t : TypeId} {kd : IntKind} (l : List UInt8) (i : Nat) (c : UInt8) (ho : o.op = .index t x y) (hx : ev T x = some (.p (.str (sB l)))) (hy : ev T y = some (.p (.int kd (i : Int)))) (ht : strI P t = true)
    (hs : l[i]? = some c) : OpJ P N o T H (.p (.int .u8 c.toNat)) H :=
  OpJ.indexStr ho hx hy (strI_some ht) (Int.natCast_nonneg _) (by rw [Int.toNat_natCast, sB_get]; exact hs)
theorem OpJ.strCut {x : Operand} {t : TypeId} {lo hi : Option Operand} (l : List UInt8) (i j : Nat) (ho : o.op = .slice t x lo hi none) (hx : ev T x = some (.p (.str (sB l)))) (ht : strI P t = true) (hl : bnd T lo 0 i) (hh : bnd T hi l.length j) (h1 : i ≤ j) (h2 : j ≤ l.length) :
    OpJ P N o T H (.p (.str (sB ((l.drop i).take (j - i))))) H := by
  rw [← sB_ext]
  exact OpJ.sliceStr ho hx (strI_some ht) hl hh h1 h2
/-- 'string(r)' of a number of ASCII. -/
theorem OpJ.runeStr {x : Operand} {s d : TypeId} {k : IntKind} (n : Nat) (ho : o.op = .convert s d x) (hx : ev T x = some (.p (.int k (n : Int)))) (hs : (P.underlying s).isSome = true) (hd : strI P d = true) (hn : n < 128) : OpJ P N o T H (.p (.str (sB [UInt8.ofNat n]))) H :=
  OpJ.of_pure (by simp [ho]) fun w I ρ ac hi ht => by
    obtain ⟨ks, hks⟩ := Option.isSome_iff_exists.1 hs
    refine ⟨.string (sB [UInt8.ofNat n]), ?_, by simp [RelV, Rel]⟩
    have he : Utf8.encode (n : Int) = sB [UInt8.ofNat n] := by
      unfold Utf8.encode
      have hv : Utf8.valid (n : Int) = true := by
        simp only [Utf8.valid, Bool.or_eq_true, Bool.and_eq_true, decide_eq_true_eq]
        exact .inl ⟨by omega, by omega⟩
      simp only [hv, if_true, Int.toNat_natCast]
      rw [if_pos (show n < 0x80 by omega)]
      rfl
    simp [execOp, ho, ev_int ht hx, convert, run_underlying hks, run_underlying (strI_some hd), Conv.intToString, he]
/-- What is appended. -/
def ASrc (P : Program) (N : Nat) (T : Tm) (H : List Blk) (y : Operand) (t2 : TypeId) (sz : Nat) (ys : List V) (n : Nat) : Prop :=
  ∀ w I ρ (a : Act), Inv P w I ρ H → TRel P w I ρ N T a.tmps → ∃ us : List Value, (∃ d2, P.underlying t2 = some d2 ∧ ∀ k, d2 ≠ .int k) ∧ (∀ W, (Builtin.lenOf (a.eval y)).run P W = .ok n W) ∧
    (∀ w' : World, (∀ b, b < w.heap.size → w'.heap[b]? = w.heap[b]?) → (Builtin.firstCells sz n (a.eval y)).run P w' = .ok us.toArray w') ∧ RelVL P w I ρ ys us ∧ us.length = n * sz
theorem ASrc.str {y : Operand} {t2 : TypeId} {l : List UInt8} (hy : ev T y = some (.p (.str (sB l)))) (ht : strI P t2 = true) : ASrc P N T H y t2 1 (bV l) l.length := by
  intro w I ρ a hi hT
  have hu := ev_str hT hy
  refine ⟨Lib.byteCells l, ⟨_, strI_some ht, fun k => by simp⟩, fun W => by rw [hu]; rfl, fun w' _ => ?_, bV_rel l, by simp [Lib.byteCells]⟩
  rw [hu]
  have := Lib.run_firstCells_string (P := P) w' 1 (sB l)
  exact this
theorem ASrc.of {y : Operand} {t2 : TypeId} {yv : V} {sz n : Nat} {ys : List V} (hy : ev T y = some yv) (ht2 : isSl P t2 = true) (hsrc : asrc H sz yv = some (ys, n)) : ASrc P N T H y t2 sz ys n := by
  intro w I ρ a hi hT
  obtain ⟨us, ⟨ad, ycap, hyu⟩, hfc, _, hrel, hlen⟩ := run_asrc hi (hT.ev hy) hsrc
  have hd2 : ∃ d2, P.underlying t2 = some (.slice d2) := by
    cases h : P.underlying t2 with
    | none => simp [isSl, h] at ht2
    | some d => cases d <;> simp [isSl, h] at ht2; exact ⟨_, rfl⟩
  obtain ⟨d2, hd2⟩ := hd2
  exact ⟨us, ⟨_, hd2, fun k => by simp⟩, fun W => by rw [hyu]; rfl, fun w' h => hfc w' h, hrel, hlen⟩
theorem run_storeCells_fz {w : World} {b : Nat} {e : TypeId} {m : Nat} : ∀ (us : List Value) (arr : Array Value) (w : World) (off k : Nat), w.heap[b]? = some (.cells arr e (0, m)) → m ≤ off + k → off + k + us.length ≤ arr.size → (∀ u ∈ us, oneU u = true) →
    ∃ w' arr', (storeCells ⟨b, off, none⟩ us k).run P w = .ok () w' ∧ w'.heap[b]? = some (.cells arr' e (0, m)) ∧ arr'.size = arr.size ∧ arr'.toList = (us.foldl (fun (s : List Value × Nat) u => (s.1.set s.2 u, s.2 + 1)) (arr.toList, off + k)).1 ∧
      w'.os = w.os ∧ w'.tape = w.tape ∧ w'.output = w.output ∧ w'.heap.size = w.heap.size ∧ (∀ j, j ≠ b → w'.heap[j]? = w.heap[j]?)
  | [], arr, w, off, k, hb, _, _, _ => ⟨w, arr, by simp [storeCells], hb, rfl, rfl, rfl, rfl, rfl, rfl, fun _ _ => rfl⟩
  | u :: us, arr, w, off, k, hb, hm, hl, h1 => by
    have hu := h1 u (by simp)
    have hlt : off + k < arr.size := by simp at hl; omega
    have hcell : w.cell? ⟨b, off + k, none⟩ = some (arr[off + k]) := by simp [World.cell?, hb, hlt]
    have hfr : w.frozen? ⟨b, off + k, none⟩ = false := by
      simp [World.frozen?, hb]
      omega
    have hrun : (store ⟨b, off + k, none⟩ u).run P w = .ok () (w.setCell ⟨b, off + k, none⟩ u) := by
      cases u <;> first | (simp [store, Sem.run, hcell, hfr]; done) | cases hu
    have hb' : (w.setCell ⟨b, off + k, none⟩ u).heap[b]? = some (.cells (arr.setIfInBounds (off + k) u) e (0, m)) := by
      simp [World.setCell, Array.getElem?_modify, hb]
    obtain ⟨w', arr', h2, h3, h4, h5, h6, h7, h8, h9, h10⟩ := run_storeCells_fz us (arr.setIfInBounds (off + k) u) (w.setCell ⟨b, off + k, none⟩ u) off (k + 1) hb' (by omega) (by simp at hl ⊢; omega) (fun v hv => h1 v (by simp [hv])) (w := w)
    refine ⟨w', arr', ?_, h3, by simpa using h4, ?_, h6, h7, h8, by simpa using h9, fun j hj => ?_⟩
    · simp only [storeCells, add_none, Sem.run_bind, hrun, Result.andThen, h2]
    · rw [h5]
      simp only [List.foldl_cons, Array.toList_setIfInBounds]
      rfl
    · rw [h10 j hj]
      simp only [World.setCell, Array.getElem?_modify]
      rw [if_neg (by simpa using fun e => hj e.symm)]
theorem run_append_roomF {w w' : World} {t t2 e ty : TypeId} {bb : Bool} {sz len cap n : Nat} {base : Addr} {d2 : TypeDesc} {u : Value} {new : List Value} (hu : P.underlying t = some (.slice e)) (htk : tyI P e = some (bb, sz)) (hd2 : P.underlying t2 = some d2) (hnot : ∀ k, d2 ≠ .int k)
    (hlo : (Builtin.lenOf u).run P w = .ok n w) (hroom : len + n ≤ cap) (hnew : (Builtin.firstCells sz n u).run P w = .ok new.toArray w) (hst : (storeCells (base.add (len * sz)) new).run P w = .ok () w') :
    (Builtin.append_ #[t, t2] ty #[.slice (some base) len cap, u]).run P w = .ok (.slice (some base) (len + n) cap) w' := by
  have hz : (match d2 with | .int _ => true | _ => false) = false := by
    cases d2 <;> first | rfl | exact absurd rfl (hnot _)
  simp [Builtin.append_, run_underlying hu, run_sizeOf' htk, run_underlying hd2, hz, hlo, hroom, hnew, hst, Result.andThen]
theorem run_append_growF {w : World} {t t2 e : TypeId} {ty : TypeId} {bb : Bool} {sz len cap n : Nat} {base : Option Addr} {inf : TypeInfo} {old new : Array Value} {uz u : Value} {d2 : TypeDesc} (hu : P.underlying t = some (.slice e)) (htk : tyI P e = some (bb, sz)) (hd2 : P.underlying t2 = some d2) (hnot : ∀ k, d2 ≠ .int k) (hlo : (Builtin.lenOf u).run P w = .ok n w)
    (hinf : P.info? e = some inf) (hsmall : ¬ (Builtin.nextslicecap (len + n) cap * inf.bytes > 2 ^ 48)) (hneed : ((len + n : Nat) : Int) ≤ IntKind.i64.max) (hroom : ¬ len + n ≤ cap) (hold : (Builtin.firstCells sz len (.slice base len cap)).run P w.drew = .ok old w.drew)
    (hnew : (Builtin.firstCells sz n u).run P w.drew = .ok new w.drew) (hz : (zeroValue e).run P w.drew = .ok uz w.drew) :
    (Builtin.append_ #[t, t2] ty #[.slice base len cap, u]).run P w = .ok (.slice (some ⟨w.heap.size, 0, none⟩) (len + n) ((Question.appendCap (len + n) cap e).cut (w.tape w.drawn (.appendCap (len + n) cap e))))
      (w.drew.alloc (.cells (old ++ new ++ Builtin.zeroCells uz.cells ((Question.appendCap (len + n) cap e).cut (w.tape w.drawn (.appendCap (len + n) cap e)) - (len + n))) e)) := by
  have hz0 : (match d2 with | .int _ => true | _ => false) = false := by
    cases d2 <;> first | rfl | exact absurd rfl (hnot _)
  have hask : ∀ k w, (askRoom k).run P w = .ok () w := fun k w => by
    unfold askRoom
    split <;> simp [mark, Sem.run]
  have hch : (choose (.appendCap (len + n) cap e)).run P w = .ok ((Question.appendCap (len + n) cap e).cut (w.tape w.drawn (.appendCap (len + n) cap e))) w.drew := by
    simp [choose, Sem.run, Question.forced]
  have h1 : ¬ (9223372036854775807 < (len : Int) + (n : Int)) := by
    have h2 : IntKind.i64.max = 9223372036854775807 := by decide
    rw [h2] at hneed
    omega
  have hsmall2 : ¬ (281474976710656 < Builtin.nextslicecap (len + n) cap * inf.bytes) := by
    have h2 : (2 : Nat) ^ 48 = 281474976710656 := by decide
    omega
  have hf : (Question.appendCap (len + n) cap e).forced = false := rfl
  simp [Builtin.append_, run_underlying hu, run_sizeOf' htk, run_underlying hd2, hz0, hlo, hroom]
  simp only [run_typeInfo w hinf, Result.andThen]
  simp [h1, hsmall2, hf, run_typeInfo w hinf, hch, run_typeInfo w.drew hinf, hask, hold, hnew, hz, newRow, newObj, Sem.run]
  rfl
theorem OpJ.appendF {x y : Operand} {t t2 e : TypeId} {z : List PV} {i len n by_ : Nat} {cs ys : List V} (ho : o.op = .call { callee := .builtin .append, args := #[x, y], argTypes := #[t, t2] }) (hx : ev T x = some (.row i len)) (hs : slI P t = some (e, z))
    (hH : H[i]? = some (.rowF cs e)) (hcs : cs.length = len * z.length) (hsrc : ASrc P N T H y t2 z.length ys n) (hone : ys.all oneV = true) (hby : byI P e = some by_) (hb0 : 0 < by_) (hb : (2 * (len + n) + 192) * by_ ≤ 281474976710656) :
    OpJ P N o T H (.row H.length (len + n)) (H.set i .dead ++ [.rowF (cs ++ ys) e]) :=
  OpJ.of_run (by simp [ho]) fun w I ρ a hi hT => by
    obtain ⟨hu, ⟨bb, htk⟩, hz0, hz⟩ := slI_some hs
    obtain ⟨b, e', cap, hρ, hxu, hsh, hle⟩ := hT.ev hx
    obtain ⟨us, ⟨d2, hd2, hnot⟩, hlo, hfc, hrel, hlen⟩ := hsrc w I ρ a hi hT
    obtain ⟨arr, m, hw, hm, hal, har⟩ := hi.rel i b _ hρ hH
    have hce : P.cellsOf e = z.length := by
      obtain ⟨d, inf, _, h5, _, h6⟩ := tyI_some htk
      simp [Program.cellsOf, h5, h6]
    have hsz : e' = e ∧ arr.size = cap * z.length := by
      simp only [World.shape?, hw, Option.some.injEq, Prod.mk.injEq] at hsh
      obtain ⟨h1, h2⟩ := hsh
      subst h1
      exact ⟨rfl, by rw [h2, hce]⟩
    obtain ⟨rfl, hsz⟩ := hsz
    have hinfo : ∃ inf, P.info? e' = some inf ∧ inf.bytes = by_ := by
      unfold byI at hby
      cases h : P.info? e' with
      | none => rw [h] at hby; cases hby
      | some inf => rw [h] at hby; simp at hby; exact ⟨inf, rfl, hby⟩
    obtain ⟨inf, hinf, hbyt⟩ := hinfo
    have hun : ∀ u ∈ us, oneU u = true := one_of hrel hone
    have hyl := RelVL.length hrel
    have hlive : (Blk.rowF cs e').live = true := rfl
    have hcl := RelVL.length har
    by_cases hroom : len + n ≤ cap
    · -- there is room
      have hfit : len * z.length + 0 + us.length ≤ arr.size := by
        rw [hlen, hsz, Nat.add_zero, ← Nat.add_mul]
        exact Nat.mul_le_mul_right _ hroom
      obtain ⟨w', arr', r1, r2, r3, r4, r5, r6, r7, r8, r9⟩ := run_storeCells_fz (P := P) (w := w) us arr w (len * z.length) 0 hw (by rw [← hcs]; omega) hfit hun
      have hE : Ext w I ρ w' I ρ := Ext.write hi hρ hH hlive r5 r6 r7 r8 r9 (fun s h => by
        simp only [World.shape?, hw] at h
        simp only [World.shape?, r2, r3]
        exact h)
      have hfold : RelVL P w' I ρ (cs ++ ys) (arr'.toList.take (cs ++ ys).length) := by
        have h0 : RelVL P w I ρ (cs ++ List.replicate ys.length .top) (arr.toList.take (cs ++ List.replicate ys.length V.top).length) := by
          have e1 : arr.toList.take (cs ++ List.replicate ys.length V.top).length = arr.toList.take cs.length ++ (arr.toList.drop cs.length).take ys.length := by
            rw [List.length_append, List.length_replicate, List.take_add]
          rw [e1]
          refine RelVL.append har ?_
          have e2 : ((arr.toList.drop cs.length).take ys.length).length = ys.length := by
            simp only [List.length_take, List.length_drop, Array.length_toList]
            rw [hcs, ← hyl, hlen, hsz, ← Nat.sub_mul]
            exact Nat.min_eq_left (Nat.mul_le_mul_right _ (by omega))
          have := RelVL.tops (P := P) (w := w) (I := I) (ρ := ρ) ((arr.toList.drop cs.length).take ys.length)
          rw [e2] at this
          exact this
        have := foldl_setAt (P := P) (w := w') (I := I) (ρ := ρ) ys us (cs ++ List.replicate ys.length .top) arr.toList (len * z.length + 0) (RelVL.ext hE hrel) (by simp [hcs]) (RelVL.ext hE h0)
        have e3 := setAt_append cs ys (List.replicate ys.length .top) [] (by simp)
        simp only [List.append_nil, List.length_nil] at e3
        rw [Nat.add_zero, ← hcs] at this
        rw [Nat.add_zero] at e3
        rw [e3] at this
        rw [r4, Nat.add_zero, ← hcs]
        have e4 : (cs ++ List.replicate ys.length V.top).length = (cs ++ ys).length := by simp
        rw [e4] at this
        exact this
      have hE2 : Ext w' I ρ w' I (ρ ++ [b]) := ⟨⟨rfl, rfl, rfl, Nat.le_refl _, fun _ _ _ => rfl, fun _ _ h => h, fun _ h => h, fun _ _ => rfl, fun _ h => .inl h, fun _ h => .inl h, fun _ h => h, fun _ _ h => h, fun k hk => by
        rcases List.mem_append.1 hk with h | h
        · exact .inl h
        · simp at h; subst h; exact .inl (List.mem_of_getElem? hρ)⟩, ⟨_, rfl⟩⟩
      have hi1 : Inv P w' I ρ (H.set i .dead) := Inv.write hi hρ hH hlive hE r8 r9 trivial
      have hilt : i < H.length := (List.getElem?_eq_some_iff.1 hH).1
      have hi2 : Inv P w' I (ρ ++ [b]) (H.set i .dead ++ [.rowF (cs ++ ys) e']) := by
        refine ⟨by simp [hi.len], fun j k blk h1 h2 h3 => ?_, hi1.ib, fun j k blk h1 h2 h3 h4 => ?_, fun j j' k bx by2 h1 h2 h3 h4 h5 h6 => ?_, fun j k blk h1 h2 => ?_, hi1.gl⟩
        · rcases get_append_one h1 with ⟨h5, h6⟩ | ⟨h5, h6⟩
          · rw [List.getElem?_append_left (by simp [← hi.len]; exact h5)] at h2
            exact hi1.bnd j k blk h6 h2 h3
          · subst h6
            rw [r8]; exact hi.bnd i k _ hρ hH hlive
        · rcases get_append_one h1 with ⟨h5, h6⟩ | ⟨h5, h6⟩
          · rw [List.getElem?_append_left (by simp [← hi.len]; exact h5)] at h2
            exact hi1.live j k blk h6 h2 h3 h4
          · subst h6
            exact hi.live i k _ hρ hH hlive h4
        · rcases get_append_one h1 with ⟨h7, h8⟩ | ⟨h7, h8⟩ <;> rcases get_append_one h2 with ⟨h9, h10⟩ | ⟨h9, h10⟩
          · rw [List.getElem?_append_left (by simp [← hi.len]; exact h7)] at h3
            rw [List.getElem?_append_left (by simp [← hi.len]; exact h9)] at h4
            exact hi1.dist j j' k bx by2 h8 h10 h3 h4 h5 h6
          · subst h10
            rw [List.getElem?_append_left (by simp [← hi.len]; exact h7)] at h3
            exfalso
            by_cases hji : i = j
            · subst hji
              simp [hilt] at h3
              subst h3
              cases h5
            · rw [List.getElem?_set_ne hji] at h3
              exact hji (hi.dist i j k _ bx hρ h8 hH h3 hlive h5)
          · subst h8
            rw [List.getElem?_append_left (by simp [← hi.len]; exact h9)] at h4
            exfalso
            by_cases hji : i = j'
            · subst hji
              simp [hilt] at h4
              subst h4
              cases h6
            · rw [List.getElem?_set_ne hji] at h4
              exact hji (hi.dist i j' k _ by2 hρ h10 hH h4 hlive h6)
          · omega
        · rcases get_append_one h1 with ⟨h5, h6⟩ | ⟨h5, h6⟩
          · rw [List.getElem?_append_left (by simp [← hi.len]; exact h5)] at h2
            exact RelB.ext hE2 hi1 h6 h2 rfl
          · subst h6
            have hj : j = (H.set i .dead).length := by simp [← hi.len]; exact h5
            subst hj
            simp at h2
            subst h2
            refine ⟨arr', m, r2, by rw [List.length_append]; omega, ?_, RelVL.ext hE2 hfold⟩
            rw [r3, List.length_append, hcs, ← hyl, hlen, hsz, ← Nat.add_mul]
            exact Nat.mul_le_mul_right _ hroom
      refine ⟨.slice (some ⟨b, 0, none⟩) (len + n) cap, w', I, ρ ++ [b], .inl ?_, hE.trans hE2, hi2, b, e', cap, by rw [← hi.len]; simp, rfl, ?_, hroom⟩
      · have hap := run_append_roomF (P := P) (w := w) (w' := w') (t := t) (t2 := t2) (ty := o.type) (e := e') (cap := cap) (base := ⟨b, 0, none⟩) hu htk hd2 hnot (hlo w) hroom (hfc w (fun _ _ => rfl)) (by rw [add_none, Nat.zero_add]; exact r1)
        simp only [execOp, ho, Go.resolve, Go.invoke, Go.builtin, Sem.run_bind]
        simp only [Sem.run_pure, Result.andThen, List.map_toArray, List.map_cons, List.map_nil, hxu, Sem.run_bind, hap]
      · simp only [World.shape?, r2, r3, hsz, hce]
    · -- a new array
      have hcut : ∀ q, len + n ≤ (Question.appendCap (len + n) cap e').cut q := fun q => Nat.le_add_right _ _
      obtain ⟨uz, hz1, hz2⟩ := hz w.drew
      have hzl := RelL.length (hz2 I)
      have hzsz : uz.cells.size = z.length := by simpa using hzl
      have hnext := nextcap_le (need := len + n) (cap := cap) (by omega)
      have hsmall : ¬ (Builtin.nextslicecap (len + n) cap * by_ > 2 ^ 48) := by
        have h1 := Nat.mul_le_mul_right by_ hnext
        have h2 : (2 : Nat) ^ 48 = 281474976710656 := by decide
        omega
      let newCap := (Question.appendCap (len + n) cap e').cut (w.tape w.drawn (.appendCap (len + n) cap e'))
      have hnc : len + n ≤ newCap := hcut _
      have hold : (Builtin.firstCells z.length len (.slice (some ⟨b, 0, none⟩) len cap)).run P w.drew = .ok (arr.toList.take (len * z.length)).toArray w.drew := by
        have := run_loadCells_list (P := P) w.drew ⟨b, 0, none⟩ (arr.toList.take (len * z.length)) (fun j v hj => by
          rw [add_none, Nat.zero_add]
          rw [List.getElem?_take] at hj
          split at hj
          · show w.cell? _ = _
            simp only [World.cell?, hw]
            simpa using hj
          · cases hj)
        have hl2 : (arr.toList.take (len * z.length)).length = len * z.length := by
          simp only [List.length_take, Array.length_toList]; rw [hsz]; exact Nat.min_eq_left (Nat.mul_le_mul_right _ hle)
        rw [hl2] at this
        simpa [Builtin.firstCells] using this
      have hnew := hfc w.drew (fun _ _ => rfl)
      let arr2 : Array Value := (arr.toList.take (len * z.length)).toArray ++ us.toArray ++ Builtin.zeroCells uz.cells (newCap - (len + n))
      have hE1 : Ext w I ρ w.drew I ρ := Ext.drew
      have hi1 : Inv P w.drew I ρ H := hi.drew
      have hE2 : Ext w.drew I ρ (w.drew.alloc (.cells arr2 e')) I (ρ ++ [w.drew.heap.size]) := Ext.allocOwn hi1 _
      have hi2 : Inv P (w.drew.alloc (.cells arr2 e')) I (ρ ++ [w.drew.heap.size]) (H ++ [.rowF (cs ++ ys) e']) := by
        refine Inv.allocOwn hi1 _ ⟨arr2, 0, heap_alloc_new _ _, Nat.zero_le _, ?_, RelVL.ext hE2 (RelVL.ext hE1 ?_)⟩
        · simp only [arr2, Array.size_append, List.length_append]
          rw [hcs, ← hyl]
          simp
          rw [hsz]
          have := Nat.mul_le_mul_right z.length hle
          omega
        · have e1 : arr2.toList.take (cs ++ ys).length = arr.toList.take cs.length ++ us := by
            simp only [arr2, Array.toList_append]
            rw [List.append_assoc, List.take_append]
            have hl2 : (arr.toList.take (len * z.length)).length = len * z.length := by
              simp only [List.length_take, Array.length_toList]; rw [hsz]; exact Nat.min_eq_left (Nat.mul_le_mul_right _ hle)
            have e3 : (cs ++ ys).length = len * z.length + us.length := by rw [List.length_append, hcs, hyl]
            simp only [hl2, e3, hcs]
            rw [List.take_of_length_le (by rw [hl2]; omega), Nat.add_sub_cancel_left, List.take_append_of_le_length (Nat.le_refl _), List.take_length]
          rw [e1]
          exact RelVL.append har hrel
      have hilt : i < H.length := (List.getElem?_eq_some_iff.1 hH).1
      have hi3 : Inv P (w.drew.alloc (.cells arr2 e')) I (ρ ++ [w.drew.heap.size]) (H.set i .dead ++ [.rowF (cs ++ ys) e']) := by
        have hset : H.set i .dead ++ [Blk.rowF (cs ++ ys) e'] = (H ++ [Blk.rowF (cs ++ ys) e']).set i .dead := by rw [List.set_append_left _ _ hilt]
        rw [hset]
        have hρ2 : (ρ ++ [w.drew.heap.size])[i]? = some b := by
          rw [List.getElem?_append_left (by rw [hi.len]; exact hilt)]
          exact hρ
        have hH2 : (H ++ [Blk.rowF (cs ++ ys) e'])[i]? = some (Blk.rowF cs e') := by
          rw [List.getElem?_append_left hilt]; exact hH
        exact Inv.write hi2 hρ2 hH2 hlive (Ext.refl _ _ _) rfl (fun _ _ => rfl) trivial
      refine ⟨.slice (some ⟨w.heap.size, 0, none⟩) (len + n) newCap, w.drew.alloc (.cells arr2 e'), I, ρ ++ [w.drew.heap.size], .inl ?_, hE1.trans hE2, hi3, w.heap.size, e', newCap, by rw [← hi.len]; simp, rfl, ?_, hnc⟩
      · have hneed : ((len + n : Nat) : Int) ≤ IntKind.i64.max := by
          have h1 := Nat.le_mul_of_pos_right (2 * (len + n) + 192) hb0
          have h2 : IntKind.i64.max = 9223372036854775807 := by decide
          rw [h2]
          omega
        have := run_append_growF (P := P) (w := w) (t := t) (t2 := t2) (ty := o.type) hu htk hd2 hnot (hlo w) hinf (by rw [hbyt]; exact hsmall) hneed hroom hold hnew hz1
        simp only [execOp, ho, Go.resolve, Go.invoke, Go.builtin, Sem.run_bind]
        simp only [Sem.run_pure, Result.andThen, List.map_toArray, List.map_cons, List.map_nil, hxu, Sem.run_bind, this]
        rfl
      · simp only [World.shape?]
        show (match (w.drew.alloc (.cells arr2 e')).heap[w.drew.heap.size]? with | some (.cells c elem _) => some (elem, c.size) | _ => none) = _
        rw [heap_alloc_new]
        simp only [arr2, Array.size_append, hce, Builtin.zeroCells]
        simp
        rw [hlen, hzsz, hsz, Nat.min_eq_left (Nat.mul_le_mul_right _ hle), ← Nat.add_mul, ← Nat.add_mul]
        congr 1
        omega
theorem OpJ.appendNilF {x y : Operand} {t t2 e : TypeId} {z : List PV} {n by_ : Nat} {ys : List V} (ho : o.op = .call { callee := .builtin .append, args := #[x, y], argTypes := #[t, t2] }) (hx : ev T x = some (.p .nilSlice)) (hs : slI P t = some (e, z))
    (hsrc : ASrc P N T H y t2 z.length ys n) (hn : 0 < n) (hone : ys.all oneV = true) (hby : byI P e = some by_) (hb0 : 0 < by_) (hb : (2 * n + 192) * by_ ≤ 281474976710656) :
    OpJ P N o T H (.row H.length n) (H ++ [.rowF ys e]) :=
  OpJ.of_run (by simp [ho]) fun w I ρ a hi hT => by
    obtain ⟨hu, ⟨bb, htk⟩, hz0, hz⟩ := slI_some hs
    have hxu : a.eval x = .slice none 0 0 := hT.ev hx
    obtain ⟨us, ⟨d2, hd2, hnot⟩, hlo, hfc, hrel, hlen⟩ := hsrc w I ρ a hi hT
    have hce : P.cellsOf e = z.length := by
      obtain ⟨d, inf, _, h5, _, h6⟩ := tyI_some htk
      simp [Program.cellsOf, h5, h6]
    have hinfo : ∃ inf, P.info? e = some inf ∧ inf.bytes = by_ := by
      unfold byI at hby
      cases h : P.info? e with
      | none => rw [h] at hby; cases hby
      | some inf => rw [h] at hby; simp at hby; exact ⟨inf, rfl, hby⟩
    obtain ⟨inf, hinf, hbyt⟩ := hinfo
    have hyl := RelVL.length hrel
    have hcut : ∀ q, 0 + n ≤ (Question.appendCap (0 + n) 0 e).cut q := fun q => Nat.le_add_right _ _
    obtain ⟨uz, hz1, hz2⟩ := hz w.drew
    have hzl := RelL.length (hz2 I)
    have hzsz : uz.cells.size = z.length := by simpa using hzl
    have hnext := nextcap_le (need := 0 + n) (cap := 0) (by omega)
    have hsmall : ¬ (Builtin.nextslicecap (0 + n) 0 * by_ > 2 ^ 48) := by
      have h1 := Nat.mul_le_mul_right by_ hnext
      have h2 : (2 : Nat) ^ 48 = 281474976710656 := by decide
      have h3 : 2 * (0 + n) + 192 = 2 * n + 192 := by omega
      rw [h3] at h1
      omega
    let newCap := (Question.appendCap (0 + n) 0 e).cut (w.tape w.drawn (.appendCap (0 + n) 0 e))
    have hnc : 0 + n ≤ newCap := hcut _
    have hnew := hfc w.drew (fun _ _ => rfl)
    let arr2 : Array Value := #[] ++ us.toArray ++ Builtin.zeroCells uz.cells (newCap - (0 + n))
    have hE1 : Ext w I ρ w.drew I ρ := Ext.drew
    have hi1 : Inv P w.drew I ρ H := hi.drew
    have hE2 : Ext w.drew I ρ (w.drew.alloc (.cells arr2 e)) I (ρ ++ [w.drew.heap.size]) := Ext.allocOwn hi1 _
    have hi2 : Inv P (w.drew.alloc (.cells arr2 e)) I (ρ ++ [w.drew.heap.size]) (H ++ [.rowF ys e]) := by
      refine Inv.allocOwn hi1 _ ⟨arr2, 0, heap_alloc_new _ _, Nat.zero_le _, ?_, RelVL.ext hE2 (RelVL.ext hE1 ?_)⟩
      · simp only [arr2, Array.size_append]
        rw [← hyl]
        simp
      · have e1 : arr2.toList.take ys.length = us := by
          simp only [arr2, Array.toList_append]
          rw [List.nil_append, ← hyl, List.take_append_of_le_length (Nat.le_refl _)]
          exact List.take_length
        rw [e1]
        exact hrel
    refine ⟨.slice (some ⟨w.heap.size, 0, none⟩) (0 + n) newCap, w.drew.alloc (.cells arr2 e), I, ρ ++ [w.drew.heap.size], .inl ?_, hE1.trans hE2, hi2, w.heap.size, e, newCap, by rw [← hi.len]; simp, by rw [Nat.zero_add], ?_, by omega⟩
    · have hneed : ((0 + n : Nat) : Int) ≤ IntKind.i64.max := by
        have h1 := Nat.le_mul_of_pos_right (2 * n + 192) hb0
        have h2 : IntKind.i64.max = 9223372036854775807 := by decide
        rw [h2]
        omega
      have hold : (Builtin.firstCells z.length 0 (.slice none 0 0)).run P w.drew = .ok #[] w.drew := by simp [Builtin.firstCells]
      have := run_append_growF (P := P) (w := w) (t := t) (t2 := t2) (ty := o.type) hu htk hd2 hnot (hlo w) hinf (by rw [hbyt]; exact hsmall) hneed (by omega) hold hnew hz1
      simp only [execOp, ho, Go.resolve, Go.invoke, Go.builtin, Sem.run_bind]
      simp only [Sem.run_pure, Result.andThen, List.map_toArray, List.map_cons, List.map_nil, hxu, Sem.run_bind, this]
      rfl
    · simp only [World.shape?]
      show (match (w.drew.alloc (.cells arr2 e)).heap[w.drew.heap.size]? with | some (.cells c elem _) => some (elem, c.size) | _ => none) = _
      rw [heap_alloc_new]
      simp only [arr2, Array.size_append, hce, Builtin.zeroCells]
      simp
      rw [hlen, hzsz, ← Nat.add_mul]
      congr 1
      omega

end
end Go.AF
end

section
set_option linter.unusedVariables false
set_option linter.unusedSimpArgs false
namespace Go.AF
open Go
section
variable {P : Program} {R : Option Nat} {N κ : Nat} {Q : Post} {T : Tm} {H H' : List Blk} {o : Oper} {ops : Array Oper} {rest : List Oper}
/-! ### Ranges over texts -/
theorem decode_low (l : List UInt8) (i : Nat) (c : UInt8) (h : l[i]? = some c) (hc : c.toNat < 128) : Utf8.decode (sB l) i = (c.toNat, 1) := by
  have hg : (sB l).get! (i + 0) = c := by
    obtain ⟨hi, h2⟩ := List.getElem?_eq_some_iff.1 h
    show l.toArray[i]! = c
    rw [getElem!_pos l.toArray i (by simpa using hi)]
    simpa using h2
  simp only [Utf8.decode, hg, hc, if_true]
theorem decode_high (l : List UInt8) (i : Nat) (c : UInt8) (h : l[i]? = some c) (hc : 128 ≤ c.toNat) : 128 ≤ (Utf8.decode (sB l) i).1 ∧ 1 ≤ (Utf8.decode (sB l) i).2 := by
  have hg : (sB l).get! (i + 0) = c := by
    obtain ⟨hi, h2⟩ := List.getElem?_eq_some_iff.1 h
    show l.toArray[i]! = c
    rw [getElem!_pos l.toArray i (by simpa using hi)]
    simpa using h2
  simp only [Utf8.decode, hg, show ¬ (c.toNat < 128) by omega, if_false, Utf8.runeError]
  refine ⟨?_, ?_⟩ <;> (repeat' split) <;> simp_all <;> omega
theorem OpJ.rangeStr {x : Operand} {t : TypeId} (l : List UInt8) (ho : o.op = .range t x) (hx : ev T x = some (.p (.str (sB l)))) (ht : strI P t = true) : OpJ P N o T H (.ptr H.length 0) (H ++ [.strIter (sB l) 0]) :=
  OpJ.of_run (by simp [ho]) fun w I ρ a hi hT => by
    have hE := Ext.allocOwn hi (.stringIter (sB l) 0)
    refine ⟨.pointer (some ⟨w.heap.size, 0, none⟩), _, _, _, .inl ?_, hE, Inv.allocOwn hi _ ?_, ⟨w.heap.size, by rw [← hi.len]; simp, rfl⟩⟩
    · simp [execOp, ho, Instr.range, run_underlying (strI_some ht), ev_str hT hx, newObj, Sem.run]
    · exact heap_alloc_new w _
/-- The next byte of a text of which all bytes so far are ASCII. -/
theorem AList.nextStr (dd : Nat) {it : Operand} {i pos : Nat} (l : List UInt8) (ho : o.op = .next it true) (hd : o.dst = some dd) (hN : dstOk N (some dd) = true) (hg : o.guard = none) (hx : ev T it = some (.ptr i 0)) (hH : H[i]? = some (.strIter (sB l) pos))
    (over : l.length ≤ pos → AList P R N κ ops rest Q ((dd, .p (.tuple [.bool false])) :: T) H)
    (next : ∀ (b : UInt8) (c wd : Nat), l[pos]? = some b → (b.toNat < 128 → c = b.toNat ∧ wd = 1) → (128 ≤ b.toNat → 128 ≤ c) → 1 ≤ wd → AList P R N κ ops rest Q ((dd, .p (.tuple [.bool true, .int .i64 (pos : Int), .int .i32 (c : Int)])) :: T) (H.set i (.strIter (sB l) (pos + wd)))) : AList P R N κ ops (o :: rest) Q T H := by
  intro QX B w I ρ a hi ht hm hq
  refine wpListIn_plain hg fun Kx hK => ⟨about_wide, ?_⟩
  rw [semAt_plain _ _ _ (by simp [ho])]
  obtain ⟨b, hb, hu⟩ := ht.ev hx
  have hrel : w.heap[b]? = some (.stringIter (sB l) pos) := hi.rel i b _ hb hH
  by_cases hp : pos < l.length
  · obtain ⟨c, hc⟩ : ∃ c, l[pos]? = some c := ⟨l[pos], List.getElem?_eq_getElem hp⟩
    have hps : pos < (sB l).size := hp
    have e : (execOp a.eval o).run P w = .ok (.value (.tuple #[.bool true, .int .i64 (pos : Int), .int .i32 ((Utf8.decode (sB l) pos).1 : Int)])) (w.putObj b (.stringIter (sB l) (pos + (Utf8.decode (sB l) pos).2))) := by
      simp [execOp, ho, hu, Instr.next, getObj, Sem.run_bind, Sem.run, hrel, Result.andThen, hps, setObj, goInt]
      rfl
    rw [e]
    have hother : ∀ k, k ≠ b → (w.putObj b (.stringIter (sB l) (pos + (Utf8.decode (sB l) pos).2))).heap[k]? = w.heap[k]? := fun k hk => World.putObj_heap_other (fun e => hk e)
    have hlt : b < w.heap.size := hi.bnd i b _ hb hH rfl
    have hsame : (w.putObj b (.stringIter (sB l) (pos + (Utf8.decode (sB l) pos).2))).heap[b]? = some (.stringIter (sB l) (pos + (Utf8.decode (sB l) pos).2)) := by
      simp [World.putObj, hlt]
    have hE : Ext w I ρ (w.putObj b (.stringIter (sB l) (pos + (Utf8.decode (sB l) pos).2))) I ρ := Ext.write hi hb hH rfl rfl rfl rfl (by simp [World.putObj]) hother (fun s h => by
      simp only [World.shape?, hrel] at h
      cases h)
    have hI := Inv.write (new := .strIter (sB l) (pos + (Utf8.decode (sB l) pos).2)) hi hb hH rfl hE (by simp [World.putObj]) hother hsame
    refine hK _ _ ?_
    have hv : RelV P (w.putObj b (.stringIter (sB l) (pos + (Utf8.decode (sB l) pos).2))) I ρ (.p (.tuple [.bool true, .int .i64 (pos : Int), .int .i32 ((Utf8.decode (sB l) pos).1 : Int)])) (.tuple #[.bool true, .int .i64 (pos : Int), .int .i32 ((Utf8.decode (sB l) pos).1 : Int)]) := ⟨_, rfl, _, _, rfl, rfl, _, _, rfl, rfl, _, _, rfl, rfl, rfl⟩
    have := (ht.ext hE).put (a := a) (dst := o.dst) (by rw [hd]; exact hN) hv
    rw [hd] at this ⊢
    have hc2 : (c.toNat < 128 → (Utf8.decode (sB l) pos).1 = c.toNat ∧ (Utf8.decode (sB l) pos).2 = 1) ∧ (128 ≤ c.toNat → 128 ≤ (Utf8.decode (sB l) pos).1) ∧ 1 ≤ (Utf8.decode (sB l) pos).2 := by
      by_cases h7 : c.toNat < 128
      · have h8 := decode_low l pos c hc h7
        rw [h8]
        exact ⟨fun _ => ⟨rfl, rfl⟩, fun h => by omega, Nat.le_refl _⟩
      · have h8 := decode_high l pos c hc (by omega)
        exact ⟨fun h => absurd h h7, fun _ => h8.1, h8.2⟩
    exact next c _ _ hc hc2.1 hc2.2.1 hc2.2.2 QX B _ I ρ _ hI this ((hm.ext hE).put) fun e a2 w2 q => hq e a2 w2 (QC.ext hE.w q)
  · have hps : ¬ pos < (sB l).size := hp
    have e : (execOp a.eval o).run P w = .ok (.value (.tuple #[.bool false])) w := by
      simp [execOp, ho, hu, Instr.next, getObj, Sem.run_bind, Sem.run, hrel, Result.andThen, hps]
    rw [e]
    refine hK _ _ ?_
    have hv : RelV P w I ρ (.p (.tuple [.bool false])) (.tuple #[.bool false]) := ⟨#[.bool false], rfl, .bool false, [], rfl, rfl, rfl⟩
    have := ht.put (a := a) (dst := o.dst) (by rw [hd]; exact hN) hv
    rw [hd] at this ⊢
    exact over (by omega) QX B w I ρ _ hi this hm.put hq
/-! ### Conversions -/
def bytI (P : Program) (t : TypeId) : Bool := match P.underlying t with
  | some (.slice e) => (match P.underlying e with
    | some (.int .u8) => true
    | _ => false)
  | _ => false
theorem bytI_some {t : TypeId} (h : bytI P t = true) : ∃ e, P.underlying t = some (.slice e) ∧ P.underlying e = some (.int .u8) := by
  unfold bytI at h
  cases hu : P.underlying t with
  | none => simp [hu] at h
  | some d =>
    cases d <;> simp [hu] at h
    rename_i e
    cases he : P.underlying e with
    | none => simp [he] at h
    | some d2 =>
      cases d2 <;> simp [he] at h
      rename_i k
      cases k <;> simp at h
      exact ⟨e, rfl, he⟩
theorem bytes_u8 (w : World) (e : TypeId) (s : ByteArray) (q : Nat) (n : Int) : (Lib.bytesCells w e s)[q]? ≠ some (.int .i64 n) := by
  intro h
  have hm := Array.mem_of_getElem? h
  simp [Lib.bytesCells] at hm
/-- '[]byte(s)'. -/
theorem OpJ.strBytes {x : Operand} {s d : TypeId} (l : List UInt8) (ho : o.op = .convert s d x) (hx : ev T x = some (.p (.str (sB l)))) (hs : strI P s = true) (hd : bytI P d = true) : OpJ P N o T H (.p (.is (bP l) l.length)) H :=
  OpJ.of_run (by simp [ho]) fun w I ρ a hi hT => by
    obtain ⟨e, hde, he⟩ := bytI_some hd
    have hrun := Lib.run_convert_string_bytes (P := P) w s d e (sB l) (strI_some hs) hde he
    have hold : ∀ b, b < w.heap.size → (Lib.bytesWorld w e (sB l)).heap[b]? = w.heap[b]? := fun b hb => Lib.bytesWorld_at_old w e (sB l) b hb
    have hE : Ext w I ρ (Lib.bytesWorld w e (sB l)) (fun b => I b ∨ b = w.heap.size) ρ :=
      ⟨⟨rfl, rfl, rfl, by rw [Lib.bytesWorld_size]; omega, fun b hb _ => hold b hb, fun b s h => (shape_of_block (hold b (shape_lt h))).trans h, fun _ h => .inl h, fun b h => hold b (hi.ib b h),
        fun b h => by rcases h with h | h; exact .inl h; exact .inr (.inr (by omega)), fun b h => by
          rcases h with h | h
          · exact .inl h
          · subst h
            refine .inr fun arr el fr h2 => ?_
            rw [Lib.bytesWorld_at_new] at h2
            cases h2
            exact .inr (bytes_u8 w e (sB l)), fun b h => (hold b (Array.getElem?_eq_some_iff.1 h).1).trans h, fun b h h2 => by
          rcases h2 with h2 | h2
          · exact h2
          · have := (Array.getElem?_eq_some_iff.1 h).1; omega, fun _ h => .inl h⟩, List.prefix_refl _⟩
    have hI : Inv P (Lib.bytesWorld w e (sB l)) (fun b => I b ∨ b = w.heap.size) ρ H :=
      hi.same hE (fun b h => by rcases h with h | h; have := hi.ib b h; rw [Lib.bytesWorld_size]; omega; rw [Lib.bytesWorld_size]; omega) (fun b hb h => by rcases h with h | h; exact h; omega) hold
    refine ⟨_, _, _, _, .inl ?_, hE, hI, .inr ⟨w.heap.size, 0, grownCap w (sB l).size 0 e, fun _ => .inr rfl, by rw [← sB_size]; exact grownCap_ge w _ _ e, rfl, ?_⟩⟩
    · simp only [execOp, ho, ev_str hT hx, Sem.run_bind, hrun, Result.andThen]
      rfl
    · have key : ∀ (m : List UInt8) (k : Nat), (∀ j c, m[j]? = some c → (Lib.bytesWorld w e (sB l)).cell? ⟨w.heap.size, k + j, none⟩ = some (.int .u8 c.toNat)) → RelAt (Lib.bytesWorld w e (sB l)) (fun b => I b ∨ b = w.heap.size) (bP m) w.heap.size k := by
        intro m
        induction m with
        | nil => intro k _; trivial
        | cons c m ih =>
          intro k hk
          exact ⟨⟨_, hk 0 c rfl, rfl⟩, ih (k + 1) fun j c' h => by
            have := hk (j + 1) c' h
            rwa [show k + (j + 1) = k + 1 + j by omega] at this⟩
      refine key l 0 fun j c h => ?_
      obtain ⟨hj, h2⟩ := List.getElem?_eq_some_iff.1 h
      have := Lib.bytesWorld_cell w e (sB l) j hj
      rw [Nat.zero_add, this]
      have h3 : (sB l).data.toList = l := rfl
      rw [h3, List.getD_eq_getElem?_getD, h]
      rfl
end
end Go.AF
end

section
set_option linter.unusedVariables false
set_option linter.unusedSimpArgs false
namespace Go.AF
open Go
section
variable {P : Program} {R : Option Nat} {N κ : Nat} {Q : Post} {T : Tm} {H H' : List Blk} {o : Oper} {ops : Array Oper} {rest : List Oper}
/-! ### Type assertions -/
theorem OpJ.taYes {x : Operand} {t xt : TypeId} {y : PV} (ho : o.op = .typeAssert x xt t true) (hx : ev T x = some (.p (.iface t y))) (ht : conI P t = true) : OpJ P N o T H (.p (.tuple [y, .bool true])) H :=
  OpJ.of_pure (by simp [ho]) fun w I ρ a hi hT => by
    obtain ⟨z, hz, hr⟩ := hT.ev hx
    unfold conI at ht
    cases hu : P.underlying t with
    | none => simp [hu] at ht
    | some d =>
      refine ⟨.tuple #[z, .bool true], ?_, ⟨_, rfl, z, _, rfl, hr, _, _, rfl, rfl, rfl⟩⟩
      cases d <;> simp [hu] at ht <;> simp [execOp, ho, Instr.typeAssert, run_underlying hu, hz]
theorem OpJ.taNo {x : Operand} {s t xt : TypeId} {y z : PV} (ho : o.op = .typeAssert x xt t true) (hx : ev T x = some (.p (.iface s y))) (ht : conI P t = true) (hne : Nat.beq s t = false) (hz : zeroI P t = some z) : OpJ P N o T H (.p (.tuple [z, .bool false])) H :=
  OpJ.of_pure (by simp [ho]) fun w I ρ a hi hT => by
    obtain ⟨v, hv, hr⟩ := hT.ev hx
    obtain ⟨uz, h1, h2⟩ := run_zero hz w
    have hst : ¬ (s = t) := fun h => by subst h; rw [show Nat.beq s s = true from Nat.beq_refl s] at hne; cases hne
    unfold conI at ht
    cases hu : P.underlying t with
    | none => simp [hu] at ht
    | some d =>
      refine ⟨.tuple #[uz, .bool false], ?_, ⟨_, rfl, uz, _, rfl, h2 I, _, _, rfl, rfl, rfl⟩⟩
      cases d <;> simp [hu] at ht <;> simp [execOp, ho, Instr.typeAssert, run_underlying hu, hv, hst, h1]
def ifcI (P : Program) (t : TypeId) : Bool := match P.underlying t with
  | some (.interface _) => true
  | _ => false
/-- Is an interface value nil? -/
theorem OpJ.ifNe {x : Operand} {t t' s : TypeId} {y : PV} (ho : o.op = .binOp .neq t x (.const .nilIface) t') (hx : ev T x = some (.p (.iface s y))) (ht : ifcI P t = true) : OpJ P N o T H (.p (.bool true)) H :=
  OpJ.of_pure (by simp [ho]) fun w I ρ ac hi hT => by
    obtain ⟨v, hv, hr⟩ := hT.ev hx
    obtain ⟨ms, hu⟩ : ∃ ms, P.underlying t = some (.interface ms) := by
      unfold ifcI at ht
      cases hu : P.underlying t with
      | none => simp [hu] at ht
      | some d => cases d <;> simp [hu] at ht; exact ⟨_, rfl⟩
    have hb : (binOp .neq t (.iface s v) .nilIface).run P w = .ok (.bool true) w := by
      simp only [binOp]
      have hq : (Op.equal t (.iface s v) .nilIface).run P w = .ok false w := by
        show (Op.equalIn (9999 + 1) t (.iface s v) .nilIface).run P w = .ok false w
        generalize 9999 = d
        simp [Op.equalIn, run_underlying hu]
      simp [hq]
    have e0 : ac.eval (.const .nilIface) = .nilIface := rfl
    exact ⟨.bool true, by simp [execOp, ho, hv, e0, eqGuard, hb], by simp [RelV, Rel]⟩
/-! ### Panics -/
theorem AList.panic {x : Operand} {t : TypeId} {y : PV} (ho : o.op = .panic x) (hg : o.guard = none) (hx : ev T x = some (.p (.iface t y))) (hq : Q (.panic (.p (.iface t y))) T H) : AList P R N κ ops (o :: rest) Q T H := by
  intro QX B w I ρ a hi ht hm hqx
  refine wpListIn_plain hg fun Kx hK => ⟨about_wide, ?_⟩
  rw [semAt_plain _ _ _ (by simp [ho])]
  obtain ⟨v, hv, hr⟩ := ht.ev hx
  have e : (execOp a.eval o).run P w = .halt (.panic (.iface t v)) w := by
    have h1 : (Instr.panic (.iface t v)).run P w = .halt (.panic (.iface t v)) w := rfl
    simp only [execOp, ho, hv]
    simp [Sem.run_bind, h1, Result.andThen]
  rw [e, Oper.uponIn_panic]
  exact hqx _ _ _ ⟨.panic (.p (.iface t y)), I, ρ, T, H, ⟨_, rfl, v, rfl, hr⟩, hq, ExtW.refl _ _ _, hi, ht, hm⟩
/-! ### The own address of a builder -/
def ptrI (P : Program) (t : TypeId) : Option (TypeId × Nat) := match P.underlying t with
  | some (.pointer e) => (P.info? e).map fun i => (e, i.size)
  | _ => none
theorem ptrI_some {t e : TypeId} {n : Nat} (h : ptrI P t = some (e, n)) : P.underlying t = some (.pointer e) ∧ ∃ j, P.info? e = some j ∧ j.size = n := by
  unfold ptrI at h
  cases hu : P.underlying t with
  | none => simp [hu] at h
  | some d =>
    cases d <;> simp [hu] at h
    obtain ⟨i, h1, h2, h3⟩ := h
    subst h2
    exact ⟨rfl, i, h1, h3⟩
theorem OpJ.ptrNil {x y : Operand} {t t' e : TypeId} {n : Nat} (ho : o.op = .binOp .eql t x y t') (hx : ev T x = some (.p .nilPtr)) (hy : ev T y = some (.p .nilPtr)) (ht : ptrI P t = some (e, n)) : OpJ P N o T H (.p (.bool true)) H :=
  OpJ.of_pure (by simp [ho]) fun w I ρ ac hi hT => by
    have e1 : ac.eval x = .pointer none := hT.ev hx
    have e2 : ac.eval y = .pointer none := hT.ev hy
    obtain ⟨hu, j, hj, _⟩ := ptrI_some ht
    have hb : (binOp .eql t (.pointer none) (.pointer none)).run P w = .ok (.bool true) w := by
      simp only [binOp]
      have hq : (Op.equal t (.pointer none) (.pointer none)).run P w = .ok true w := by
        show (Op.equalIn (9999 + 1) t (.pointer none) (.pointer none)).run P w = .ok true w
        generalize 9999 = d
        simp [Op.equalIn, run_underlying hu, sizeOf, typeInfo, hj]
      simp [hq]
    exact ⟨.bool true, by simp [execOp, ho, e1, e2, eqGuard, hb], by simp [RelV, Rel]⟩
theorem OpJ.ptrNot {x y : Operand} {t t' e : TypeId} {n i off : Nat} (ho : o.op = .binOp .eql t x y t') (hx : ev T x = some (.ptr i off)) (hy : ev T y = some (.p .nilPtr)) (ht : ptrI P t = some (e, n)) : OpJ P N o T H (.p (.bool false)) H :=
  OpJ.of_pure (by simp [ho]) fun w I ρ ac hi hT => by
    obtain ⟨b, hb0, e1⟩ := hT.ev hx
    have e2 : ac.eval y = .pointer none := hT.ev hy
    obtain ⟨hu, j, hj, _⟩ := ptrI_some ht
    have hb : (binOp .eql t (.pointer (some ⟨b, off, none⟩)) (.pointer none)).run P w = .ok (.bool false) w := by
      simp only [binOp]
      have hq : (Op.equal t (.pointer (some ⟨b, off, none⟩)) (.pointer none)).run P w = .ok false w := by
        show (Op.equalIn (9999 + 1) t (.pointer (some ⟨b, off, none⟩)) (.pointer none)).run P w = .ok false w
        generalize 9999 = d
        simp [Op.equalIn, run_underlying hu, sizeOf, typeInfo, hj]
      simp [hq]
    exact ⟨.bool false, by simp [execOp, ho, e1, e2, eqGuard, hb], by simp [RelV, Rel]⟩
theorem OpJ.ptrSame {x y : Operand} {t t' e : TypeId} {n i off : Nat} (ho : o.op = .binOp .neq t x y t') (hx : ev T x = some (.ptr i off)) (hy : ev T y = some (.ptr i off)) (ht : ptrI P t = some (e, n)) : OpJ P N o T H (.p (.bool false)) H :=
  OpJ.of_pure (by simp [ho]) fun w I ρ ac hi hT => by
    obtain ⟨b, hb0, e1⟩ := hT.ev hx
    obtain ⟨b', hb0', e2⟩ := hT.ev hy
    rw [hb0] at hb0'
    cases hb0'
    obtain ⟨hu, j, hj, _⟩ := ptrI_some ht
    exact ⟨.bool false, by simp [execOp, ho, e1, e2, eqGuard, Lib.run_neq_ptr_same w _ hu hj], by simp [RelV, Rel]⟩
def uspI (P : Program) (t : TypeId) : Bool := match P.underlying t with
  | some .unsafePointer => true
  | _ => false
theorem uspI_some {t : TypeId} (h : uspI P t = true) : P.underlying t = some .unsafePointer := by
  unfold uspI at h
  cases hu : P.underlying t with
  | none => simp [hu] at h
  | some d => cases d <;> simp [hu] at h; rfl
theorem own_shape {w : World} {I : Nat → Prop} {ρ : List Nat} (hi : Inv P w I ρ H) {i b : Nat} {cs : List V} {e : TypeId} (hb : ρ[i]? = some b) (hH : H[i]? = some (.cells cs e)) : w.shape? b = some (e, cs.length) := by
  obtain ⟨arr, h1, h2⟩ := hi.rel i b _ hb hH
  have := RelVL.length h2
  simp only [World.shape?, h1]
  rw [← this]
  simp
theorem OpJ.toUsp {x : Operand} {s d e eb : TypeId} {n i off : Nat} {cs : List V} (ho : o.op = .convert s d x) (hx : ev T x = some (.ptr i off)) (hs : ptrI P s = some (e, n)) (hd : uspI P d = true) (hn : 0 < n) (hH : H[i]? = some (.cells cs eb)) (hoff : off < cs.length) : OpJ P N o T H (.ptr i off) H :=
  OpJ.of_pure (by simp [ho]) fun w I ρ a hi hT => by
    obtain ⟨b, hb, hu⟩ := hT.ev hx
    obtain ⟨h1, j, h2, h3⟩ := ptrI_some hs
    have := Lib.run_to_unsafe (P := P) w ⟨b, off, none⟩ h1 (uspI_some hd) h2 (by omega) (own_shape hi hb hH) hoff
    exact ⟨_, by simp [execOp, ho, hu, this], hT.ev hx⟩
theorem OpJ.ofUsp {x : Operand} {s d e eb : TypeId} {n i off : Nat} {cs : List V} (ho : o.op = .convert s d x) (hx : ev T x = some (.ptr i off)) (hs : uspI P s = true) (hd : ptrI P d = some (e, n)) (hH : H[i]? = some (.cells cs eb)) (hl : liesAt P P.depth eb (cs.length / P.cellsOf eb) off e 1 = true) : OpJ P N o T H (.ptr i off) H :=
  OpJ.of_pure (by simp [ho]) fun w I ρ a hi hT => by
    obtain ⟨b, hb, hu⟩ := hT.ev hx
    obtain ⟨h1, j, h2, h3⟩ := ptrI_some hd
    have := Lib.run_from_unsafe (P := P) w ⟨b, off, none⟩ (uspI_some hs) h1 h2 (own_shape hi hb hH) hl
    exact ⟨_, by simp [execOp, ho, hu, this], hT.ev hx⟩
/-- internal/abi.NoEscape. -/
def escI (P : Program) (g : FuncId) : Prop := ∃ fn, P.funcs[g]? = some fn ∧ (fn.name == "runtime.NumGoroutine") = false ∧ fn.body.isNone = true ∧ (Extern.findNext fn).isNone = true ∧ Extern.find fn = some Extern.AbiNoEscape.same
theorem OpJ.noEsc {x : Operand} {g : FuncId} {v : V} {ts : Array TypeId} (ho : o.op = .call { callee := .value (.func g), args := #[x], argTypes := ts }) (hx : ev T x = some v) (hg : escI P g) : OpJ P N o T H v H :=
  OpJ.of_pure (by simp [ho]) fun w I ρ a hi hT => by
    obtain ⟨fn, h1, h2, h3, h4, h5⟩ := hg
    refine ⟨a.eval x, ?_, hT.ev hx⟩
    simp [execOp, ho, Go.resolve, Deferred.ofValue, Go.invoke, Act.eval]
    rw [run_callFunc_extern h1 h2 h3 (by simpa using h4) h5]
    rfl
/-! ### The text of a buffer -/
/-- A slice that is nil as long as it is empty, whose memory may be frozen in part. -/
def accF (cs : List V) (e : TypeId) : Nat → Blk
  | 0 => .dead
  | _ + 1 => .rowF cs e
theorem OpJ.appendAccF {x y : Operand} {t t2 e : TypeId} {z : List PV} {i len n by_ : Nat} {cs ys : List V} (ho : o.op = .call { callee := .builtin .append, args := #[x, y], argTypes := #[t, t2] }) (hx : ev T x = some (accV i len)) (hs : slI P t = some (e, z))
    (hH : H[i]? = some (accF cs e len)) (hcs : cs.length = len * z.length) (hsrc : ASrc P N T H y t2 z.length ys n) (hn : 0 < n) (hone : ys.all oneV = true) (hby : byI P e = some by_) (hb0 : 0 < by_) (hb : (2 * (len + n) + 192) * by_ ≤ 281474976710656) :
    OpJ P N o T H (.row H.length (len + n)) (H.set i .dead ++ [.rowF (cs ++ ys) e]) := by
  cases len with
  | zero =>
    have h0 : cs = [] := List.eq_nil_of_length_eq_zero (by simpa using hcs)
    subst h0
    rw [set_self (show H[i]? = some Blk.dead from hH), List.nil_append]
    have := OpJ.appendNilF (N := N) ho hx hs hsrc hn hone hby hb0 (by simpa using hb)
    simpa using this
  | succ len => exact OpJ.appendF ho hx hs hH hcs hsrc hone hby hb0 hb
theorem OpJ.sliceDataNil {x : Operand} {ts : Array TypeId} (ho : o.op = .call { callee := .builtin .unsafeSliceData, args := #[x], argTypes := ts }) (hx : ev T x = some (.p .nilSlice)) : OpJ P N o T H (.p .nilPtr) H :=
  OpJ.of_pure (by simp [ho]) fun w I ρ a hi hT => by
    have hu : a.eval x = .slice none 0 0 := hT.ev hx
    refine ⟨.pointer none, ?_, by simp [RelV, Rel]⟩
    simp [execOp, ho, Go.resolve, Go.invoke, Go.builtin, hu, Lib.run_unsafeSliceData_nil]
theorem OpJ.sliceDataRow {x : Operand} {ts : Array TypeId} {i n : Nat} (ho : o.op = .call { callee := .builtin .unsafeSliceData, args := #[x], argTypes := ts }) (hx : ev T x = some (.row i n)) (hn : 0 < n) : OpJ P N o T H (.ptr i 0) H :=
  OpJ.of_pure (by simp [ho]) fun w I ρ a hi hT => by
    obtain ⟨b, e, cap, h1, h2, h3, h4⟩ := hT.ev hx
    refine ⟨.pointer (some ⟨b, 0, none⟩), ?_, b, h1, rfl⟩
    simp [execOp, ho, Go.resolve, Go.invoke, Go.builtin, h2, Lib.run_unsafeSliceData_row (P := P) w _ _ _ n cap (by omega)]
theorem OpJ.ustrNil {x y : Operand} {pt it : TypeId} (ho : o.op = .call { callee := .builtin .unsafeString, args := #[x, y], argTypes := #[pt, it] }) (hx : ev T x = some (.p .nilPtr)) (hy : ev T y = some (.p (.int .i64 0))) : OpJ P N o T H (.p (.str (sB []))) H :=
  OpJ.of_pure (by simp [ho]) fun w I ρ a hi hT => by
    have hu : a.eval x = .pointer none := hT.ev hx
    refine ⟨.string .empty, ?_, rfl⟩
    simp [execOp, ho, Go.resolve, Go.invoke, Go.builtin, hu, ev_int hT hy, Lib.run_unsafeString_none]
def ubI (P : Program) (pt e : TypeId) : Bool := match P.underlying pt with
  | some (.pointer e') => Nat.beq e' e && Nat.beq (P.cellsOf e) 1
  | _ => false
theorem OpJ.ustrRow {x y : Operand} {pt it e : TypeId} {i : Nat} (l : List UInt8) (ho : o.op = .call { callee := .builtin .unsafeString, args := #[x, y], argTypes := #[pt, it] }) (hx : ev T x = some (.ptr i 0)) (hy : ev T y = some (.p (.int .i64 (l.length : Int)))) (hp : ubI P pt e = true)
    (hH : H[i]? = some (.rowF (bV l) e)) (h0 : 0 < l.length) (hb : l.length ≤ 9223372036854775807) : OpJ P N o T H (.p (.str (sB l))) H :=
  OpJ.of_run (by simp [ho]) fun w I ρ a hi hT => by
    obtain ⟨b, hb0, hu⟩ := hT.ev hx
    have hpt : P.underlying pt = some (.pointer e) ∧ P.cellsOf e = 1 := by
      unfold ubI at hp
      cases h : P.underlying pt with
      | none => simp [h] at hp
      | some d =>
        cases d <;> simp [h] at hp
        exact ⟨by rw [hp.1], hp.2⟩
    obtain ⟨arr, m, h1, h2, h3, h4⟩ := hi.rel i b _ hb0 hH
    rw [bV_length] at h2 h3 h4
    have hbytes := bV_rel_eq l _ h4
    have hsh : w.shape? b = some (e, arr.size) := by simp only [World.shape?, h1]
    have hcell : ∀ j x, l[j]? = some x → w.cell? ((⟨b, 0, none⟩ : Addr).add j) = some (.int .u8 x.toNat) := fun j x hj => by
      rw [add_none, Nat.zero_add]
      have hjl := (List.getElem?_eq_some_iff.1 hj).1
      have h5 : (arr.toList.take l.length)[j]? = some (.int .u8 x.toNat) := by
        rw [hbytes]
        simp [Lib.byteCells, hj]
      rw [List.getElem?_take_of_lt hjl] at h5
      simp only [World.cell?, h1]
      simpa using h5
    have hrun := Lib.run_unsafeString_row (P := P) w pt it o.type e hpt.1 hpt.2 b arr.size hsh l (by intro h; rw [h] at h0; cases h0) h3 hb hcell
    have hlt : b < w.heap.size := hi.bnd i b _ hb0 hH rfl
    have hother : ∀ k, k ≠ b → (w.freeze ⟨b, 0, none⟩ l.length).heap[k]? = w.heap[k]? := fun k hk => by
      unfold World.freeze
      split
      · rfl
      · simp only [Array.getElem?_modify]
        rw [if_neg (fun e => hk e.symm)]
    have hnew : (w.freeze ⟨b, 0, none⟩ l.length).heap[b]? = some (.cells arr e (0, l.length)) := by
      unfold World.freeze
      rw [if_neg (by omega)]
      simp only [Array.getElem?_modify, if_true, h1, Option.map_some]
      congr 2
      by_cases hm : m = 0
      · subst hm; simp
      · have h7 : ((0 : Nat) == m) = false := by
          cases m with
          | zero => exact absurd rfl hm
          | succ m => rfl
        simp [h7, Nat.max_eq_right h2]
    have hE : Ext w I ρ (w.freeze ⟨b, 0, none⟩ l.length) I ρ := Ext.write hi hb0 hH rfl (by unfold World.freeze; split <;> rfl) (by unfold World.freeze; split <;> rfl) (by unfold World.freeze; split <;> rfl) (by unfold World.freeze; split <;> simp) hother (fun s h => by
      simp only [World.shape?, h1] at h
      simp only [World.shape?, hnew]
      exact h)
    have hI := Inv.write (new := .rowF (bV l) e) hi hb0 hH rfl hE (by unfold World.freeze; split <;> simp) hother ⟨arr, l.length, hnew, by rw [bV_length]; exact Nat.le_refl _, by rw [bV_length]; exact h3, by rw [bV_length]; exact RelVL.ext hE h4⟩
    rw [set_self hH] at hI
    refine ⟨.string ⟨l.toArray⟩, _, I, ρ, .inl ?_, hE, hI, rfl⟩
    simp [execOp, ho, Go.resolve, Go.invoke, Go.builtin, hu, ev_int hT hy, hrun]
end
end Go.AF
end

section
set_option linter.unusedVariables false
set_option linter.unusedSimpArgs false
namespace Go.AF
open Go
def adV (l : List UInt8) (i : Nat) : V := match l with
  | [] => .p .nilPtr
  | _ :: _ => .ptr i 0
/-- A builder at place i whose buffer is at place j. -/
def wC (e : TypeId) (i j : Nat) (l : List UInt8) : Blk := .cells [adV l i, accV j l.length] e
def wF (eb : TypeId) (l : List UInt8) : Blk := accF (bV l) eb l.length
theorem wC_pos {e : TypeId} {i j : Nat} {l : List UInt8} (h : 0 < l.length) : wC e i j l = .cells [.ptr i 0, .row j l.length] e := by
  cases l with
  | nil => cases h
  | cons c t => rfl
theorem wF_pos {eb : TypeId} {l : List UInt8} (h : 0 < l.length) : wF eb l = .rowF (bV l) eb := by
  cases l with
  | nil => cases h
  | cons c t => rfl
theorem wC_ren {e : TypeId} {i j i' j' : Nat} {l : List UInt8} {σ : Nat → Option Nat} (h1 : σ i = some i') (h2 : σ j = some j') : renB σ (wC e i j l) = wC e i' j' l := by
  cases l with
  | nil => rfl
  | cons c t => simp only [wC, adV, accV, List.length_cons, renB, renL, renV, h1, h2]
theorem wF_ren {eb : TypeId} {l : List UInt8} {σ : Nat → Option Nat} : renB σ (wF eb l) = wF eb l := by
  cases l with
  | nil => rfl
  | cons c t => simp only [wF, accF, List.length_cons, renB, renL_bV]
section
variable {P : Program} {R : Option Nat} {N κ : Nat} {Q : Post} {T : Tm} {H H' : List Blk} {o : Oper} {ops : Array Oper} {rest : List Oper}
/-- What a builder's method does: it writes s. -/
def ACallsW (P : Program) (e eb : TypeId) (g : FuncId) (args : List PV) (l s : List UInt8) (v : PV) : Prop :=
  ACalls P g (.ptr 0 0 :: args.map .p) [wC e 0 1 l, wF eb l] fun v' H' => v' = .p v ∧ H' = [wC e 0 2 (l ++ s), .dead, wF eb (l ++ s)]
theorem wC_live (e : TypeId) (i j : Nat) (l : List UInt8) : (wC e i j l).live = true := rfl
theorem AList.callW (d i j : Nat) {e eb : TypeId} {g : FuncId} {args : List PV} {l s : List UInt8} {v : PV} (hp : ACallsW P e eb g args l s v) (hij : i ≠ j) (hi : H[i]? = some (wC e i j l)) (hj : H[j]? = some (wF eb l)) {f : Operand} {xs : Array Operand} {ts : Array TypeId} {fv : V} {vs : List V}
    (ho : o.op = .call { callee := .value f, args := xs, argTypes := ts }) (hd : o.dst = some d) (hN : dstOk N (some d) = true) (hgd : o.guard = none) (hf : ev T f = some fv)
    (hxs : evs T xs.toList = some vs) (hc : callee vs fv = some (g, .ptr i 0 :: args.map .p)) (hg : realFn P g = true) (next : AList P R N κ ops rest Q ((d, .p v) :: T) ((H.set i (wC e i H.length (l ++ s))).set j .dead ++ [wF eb (l ++ s)])) : AList P R N κ ops (o :: rest) Q T H := by
  have hil : i < H.length := (List.getElem?_eq_some_iff.1 hi).1
  have hjl : j < H.length := (List.getElem?_eq_some_iff.1 hj).1
  have gi : H.getD i .dead = wC e i j l := by rw [List.getD_eq_getElem?_getD, hi]; rfl
  have gj : H.getD j .dead = wF eb l := by rw [List.getD_eq_getElem?_getD, hj]; rfl
  have hji : Nat.beq i j = false := by
    cases h : Nat.beq i j with
    | false => rfl
    | true => exact absurd (Nat.eq_of_beq_eq_true h) hij
  have pi : plL H [i, j] i = some 0 := by
    unfold plL
    rw [gi, if_pos (wC_live e i j l)]
    simp [pl, List.idxOf?, List.findIdx?_cons]
  have pj : ∀ c t, l = c :: t → plL H [i, j] j = some 1 := fun c t h => by
    unfold plL
    rw [gj, if_pos (by subst h; rfl)]
    simp [pl, List.idxOf?, List.findIdx?_cons, hij]
  have t0 : tauK H [i, j] 0 = some i := by
    unfold tauK
    simp only [List.getElem?_cons_zero]
    rw [gi, if_pos (wC_live e i j l)]
  have t2 : tauK H [i, j] 2 = some H.length := by
    unfold tauK
    rfl
  refine AList.callPK (Qp := fun _ _ => False) (args0 := .ptr 0 0 :: args.map .p) (H0 := [wC e 0 1 l, wF eb l]) d [i, j] hp.toP ?_ ?_ ?_ ?_ ho hd hN hgd hf hxs hc hg (fun _ _ h => h.elim) ?_
  · simp only [renL, renV, pi, renL_pure]
  · simp only [List.map_cons, List.map_nil, gi, gj]
    cases l with
    | nil => rfl
    | cons c t =>
      simp only [wC, wF, adV, accV, accF, List.length_cons, renB, renL, renV, pi, pj c t rfl, renL_bV]
  · simp [Nat.blt, hil, hjl, hij]
    omega
  · rintro v' H' ⟨rfl, rfl⟩
    refine ⟨by simp, fun j' i' y h1 h2 h3 => ?_⟩
    cases j' with
    | zero => cases h1; rw [gi] at h2; cases h2
    | succ j' =>
      cases j' with
      | zero => cases h3; rfl
      | succ j' => simp at h1
  · rintro v' H' ⟨rfl, rfl⟩
    have e1 : backK H [i, j] [wC e 0 2 (l ++ s), .dead, wF eb (l ++ s)] = (H.set i (wC e i H.length (l ++ s))).set j .dead ++ [wF eb (l ++ s)] := by
      unfold backK
      have e2 : renB (tauK H [i, j]) (wC e 0 2 (l ++ s)) = wC e i H.length (l ++ s) := by
        cases l ++ s with
        | nil => rfl
        | cons c t => simp only [wC, adV, accV, List.length_cons, renB, renL, renV, t0, t2]
      have e3 : renB (tauK H [i, j]) (wF eb (l ++ s)) = wF eb (l ++ s) := by
        cases l ++ s with
        | nil => rfl
        | cons c t => simp only [wF, accF, List.length_cons, renB, renL_bV]
      simp only [List.length_cons, List.length_nil, List.take_succ_cons, List.take_zero, List.map_cons, List.map_nil, List.drop_succ_cons, List.drop_zero, e2, e3, putK]
      rfl
    rw [e1]
    exact next
/-- The buffer changes its place. -/
theorem To.mvW (i j : Nat) {e eb : TypeId} {l : List UInt8} (hij : i ≠ j) (hHi : H[i]? = some (wC e i j l)) (hHj : H[j]? = some (wF eb l)) : To P κ N T H T ((H.set i (wC e i H.length l)).set j .dead ++ [wF eb l]) := by
  cases l with
  | nil =>
    have h1 : wC e i H.length [] = wC e i j [] := rfl
    rw [h1, set_self hHi, set_self (show H[j]? = some Blk.dead from hHj)]
    exact To.pad
  | cons c t =>
    intro w I ρ tmps hi ht
    have hjl : j < H.length := (List.getElem?_eq_some_iff.1 hHj).1
    have hil : i < H.length := (List.getElem?_eq_some_iff.1 hHi).1
    obtain ⟨b, hb⟩ : ∃ b, ρ[j]? = some b := ⟨ρ[j]'(by rw [hi.len]; exact hjl), List.getElem?_eq_getElem _⟩
    have hbm : b ∈ ρ := List.mem_of_getElem? hb
    have hE : Ext w I ρ w I (ρ ++ [b]) := ⟨⟨rfl, rfl, rfl, Nat.le_refl _, fun _ _ _ => rfl, fun _ _ h => h, fun _ h => h, fun _ _ => rfl, fun _ h => .inl h, fun _ h => .inl h, fun _ h => h, fun _ _ h => h, fun k hk => by
      rcases List.mem_append.1 hk with h | h
      · exact .inl h
      · simp at h; subst h; exact .inl hbm⟩, ⟨_, rfl⟩⟩
    -- what is live now was live before, at a place of its own
    have old : ∀ (q k : Nat) (blk : Blk), (ρ ++ [b])[q]? = some k → ((H.set i (wC e i H.length (c :: t))).set j .dead ++ [wF eb (c :: t)])[q]? = some blk → blk.live = true →
        ∃ q', ρ[q']? = some k ∧ (q = H.length ∧ q' = j ∧ blk = wF eb (c :: t) ∨ q < H.length ∧ q' = q ∧ q ≠ j ∧ (q = i ∧ blk = wC e i H.length (c :: t) ∨ q ≠ i ∧ H[q]? = some blk)) := fun q k blk h1 h2 h3 => by
      rcases get_append_one h2 with ⟨h4, h5⟩ | ⟨h4, h5⟩
      · rw [List.length_set, List.length_set] at h4
        rw [List.getElem?_append_left (by rw [hi.len]; exact h4)] at h1
        rw [List.getElem?_set] at h5
        split at h5
        · rw [if_pos (by rw [List.length_set]; exact hjl)] at h5
          cases h5
          cases h3
        · rename_i hne
          rw [List.getElem?_set] at h5
          split at h5
          · rename_i hqi
            cases h5
            exact ⟨q, h1, .inr ⟨h4, rfl, fun hh => hne hh.symm, .inl ⟨hqi.symm, rfl⟩⟩⟩
          · rename_i hqi
            exact ⟨q, h1, .inr ⟨h4, rfl, fun hh => hne hh.symm, .inr ⟨fun hh => hqi hh.symm, h5⟩⟩⟩
      · rw [List.length_set, List.length_set] at h4
        rw [List.getElem?_append_right (by rw [hi.len]; omega), hi.len, h4] at h1
        simp at h1
        subst h1
        exact ⟨j, hb, .inl ⟨h4, rfl, h5⟩⟩
    have src : ∀ (q k : Nat) (blk : Blk), (ρ ++ [b])[q]? = some k → ((H.set i (wC e i H.length (c :: t))).set j .dead ++ [wF eb (c :: t)])[q]? = some blk → blk.live = true → ∃ q' x, ρ[q']? = some k ∧ H[q']? = some x ∧ x.live = true ∧ (q = H.length ∧ q' = j ∨ q < H.length ∧ q' = q ∧ q ≠ j) := fun q k blk h1 h2 h3 => by
      obtain ⟨q', h4, h5⟩ := old q k blk h1 h2 h3
      rcases h5 with ⟨e1, e2, e3⟩ | ⟨e1, e2, e3, h6⟩
      · subst e2; exact ⟨q', _, h4, hHj, rfl, .inl ⟨e1, rfl⟩⟩
      · rcases h6 with ⟨e4, e5⟩ | ⟨e4, e5⟩
        · subst e2; subst e4; exact ⟨q', _, h4, hHi, rfl, .inr ⟨e1, rfl, e3⟩⟩
        · subst e2; exact ⟨q', _, h4, e5, h3, .inr ⟨e1, rfl, e3⟩⟩
    refine ⟨I, ρ ++ [b], hE.w, ⟨by simp [hi.len], fun q k blk h1 h2 h3 => ?_, hi.ib, fun q k blk h1 h2 h3 => ?_, fun q q2 k x y h1 h2 h3 h4 h5 h6 => ?_, fun q k blk h1 h2 => ?_, hi.gl⟩, ht.ext hE, fun L hL _ => hL.trans ⟨_, rfl⟩⟩
    · obtain ⟨q', x, g1, g2, g3, _⟩ := src q k blk h1 h2 h3
      exact hi.bnd q' k x g1 g2 g3
    · obtain ⟨q', x, g1, g2, g3, _⟩ := src q k blk h1 h2 h3
      exact hi.live q' k x g1 g2 g3
    · obtain ⟨a1, x1, g1, g2, g3, g4⟩ := src q k x h1 h3 h5
      obtain ⟨a2, x2, k1, k2, k3, k4⟩ := src q2 k y h2 h4 h6
      have := hi.dist a1 a2 k x1 x2 g1 k1 g2 k2 g3 k3
      omega
    · cases hl : blk.live with
      | false => exact RelB.dead_of hl
      | true =>
        obtain ⟨q', h4, h5⟩ := old q k blk h1 h2 hl
        rcases h5 with ⟨e1, e2, e3⟩ | ⟨e1, e2, e3, h6⟩
        · subst e2; subst e3
          exact RelB.ext hE hi h4 hHj rfl
        · subst e2
          rcases h6 with ⟨e4, e5⟩ | ⟨e4, e5⟩
          · subst e4; subst e5
            obtain ⟨arr, g1, g2⟩ := RelB.ext hE hi h4 hHi rfl
            refine ⟨arr, g1, ?_⟩
            obtain ⟨u1, us1, hu1, g3, u2, us2, hu2, g4, g5⟩ := g2
            refine ⟨u1, us1, hu1, g3, u2, us2, hu2, ?_, g5⟩
            obtain ⟨b2, e2, cap, m1, m2⟩ := g4
            refine ⟨b2, e2, cap, ?_, m2⟩
            rw [List.getElem?_append_left (by rw [hi.len]; exact hjl), hb] at m1
            cases m1
            rw [← hi.len, List.getElem?_append_right (Nat.le_refl _), Nat.sub_self]
            rfl
          · exact RelB.ext hE hi h4 e5 rfl
end
end Go.AF
end

section
set_option linter.unusedVariables false
set_option linter.unusedSimpArgs false
namespace Go.AF
open Go
section
variable {P : Program} {R : Option Nat} {N κ : Nat} {Q : Post} {T : Tm} {H H' : List Blk} {o : Oper} {ops : Array Oper} {rest : List Oper}
/-- How a frame is left at which deferred calls are carried out: it returns, or it panics with a value. -/
def modeR (w : World) (I : Nat → Prop) : Option PV → FrameMode → Prop
  | none, u => u = .returning
  | some x, u => ∃ v, u = .panicking [{ v := v, recovered := false }] ∧ Rel w I x v
/-- A deferred closure: behind it the frame returns. -/
def DRec (P : Program) (g : FuncId) (caps : List V) (H : List Blk) (y : Option PV) (Hq : List Blk → Prop) : Prop :=
  ∀ w I ρ us u, Inv P w I ρ H → RelVL P w I ρ caps us → modeR w I y u →
    CallsDIn Fence.wide 0 P g us.toArray u w fun e u' w' => e = .returned (.tuple #[]) ∧ settle u' = .returning ∧ ∃ I' ρ' H', Hq H' ∧ Ext w I ρ w' I' ρ' ∧ Inv P w' I' ρ' H'
theorem leaves_marksT {F : Fence} {fn : Func} {tmps : Array Value} {Rr : Ending → World → Prop} {u : FrameMode} (hu : u ≠ .run) {tail : List Deferred} : ∀ (rs : List Nat) (w : World), rs.Nodup → (∀ r ∈ rs, w.heap[r]? = some (Obj.deferred (some []))) →
    (∀ w', (∀ b, b ∉ rs → w'.heap[b]? = w.heap[b]?) → w'.os = w.os → w'.tape = w.tape → w'.output = w.output → w'.heap.size = w.heap.size → LeavesInM F 0 P fn tmps Rr tail u w') →
    LeavesInM F 0 P fn tmps Rr ((rs.map fun r => { target := .collected r, args := #[] }) ++ tail) u w := by
  intro rs
  induction rs with
  | nil => intro w _ _ h; exact h w (fun _ _ => rfl) rfl rfl rfl rfl
  | cons r rs ih =>
    intro w hn hr h
    simp only [List.map_cons, List.cons_append, LeavesInM]
    refine ⟨hu, .inl ⟨r, w.putObj r (.deferred none), rfl, run_takeDeferred (hr r (by simp)), ?_⟩⟩
    have hnd := List.nodup_cons.1 hn
    have hput : ∀ b, b ≠ r → (w.putObj r (.deferred none)).heap[b]? = w.heap[b]? := fun b hb => World.putObj_heap_other (fun e => hb e)
    refine ih _ hnd.2 (fun r' h' => (hput r' (fun e => hnd.1 (e ▸ h'))).trans (hr r' (by simp [h']))) ?_
    intro w' h1 h2 h3 h4 h5
    refine h w' (fun b hb => ?_) h2 h3 h4 (by rw [h5]; simp)
    rw [h1 b (fun e => hb (by simp [e])), hput b (fun e => hb (by simp [e]))]
/-- The marks of a deferred call's own ranges are taken away. -/
theorem going_marks {f : FuncId} (cs : List Frame) : ∀ (rs : List Nat) (w : World) (fr : Frame), fr.mode = .returning → fr.defers = (rs.map fun r => { target := .collected r, args := #[] }) → rs.Nodup → (∀ r ∈ rs, w.heap[r]? = some (Obj.deferred (some []))) →
    ∃ w', StepsIn (Machine.fenced P Fence.wide) P (lone fr cs w) (lone { fr with defers := [] } cs w') ∧ (∀ b, b ∉ rs → w'.heap[b]? = w.heap[b]?) ∧ w'.os = w.os ∧ w'.tape = w.tape ∧ w'.output = w.output ∧ w'.heap.size = w.heap.size := by
  intro rs
  induction rs with
  | nil =>
    intro w fr hm hd _ _
    have : ({ fr with defers := [] } : Frame) = fr := by cases fr; simp at hd; subst hd; rfl
    rw [this]
    exact ⟨w, .refl _, fun _ _ => rfl, rfl, rfl, rfl, rfl⟩
  | cons r rs ih =>
    intro w fr hm hd hn hr
    have hnd := List.nodup_cons.1 hn
    have hput : ∀ b, b ≠ r → (w.putObj r (.deferred none)).heap[b]? = w.heap[b]? := fun b hb => World.putObj_heap_other (fun e => hb e)
    have h1 := step_collected (P := P) (fr := fr) (cs := cs) (w := w) (w' := w.putObj r (.deferred none)) (d := { target := .collected r, args := #[] }) (r := r) (ds := rs.map fun r => { target := .collected r, args := #[] }) (calls := []) (by rw [hm]; simp) hd rfl (run_takeDeferred (hr r (by simp)))
    obtain ⟨w', k1, k2, k3, k4, k5, k6⟩ := ih (w.putObj r (.deferred none)) { fr with defers := [] ++ rs.map fun r => { target := .collected r, args := #[] } } hm rfl hnd.2 (fun r' h' => (hput r' (fun e => hnd.1 (e ▸ h'))).trans (hr r' (by simp [h'])))
    refine ⟨w', .head (fenced_wide P _) h1 k1, fun b hb => ?_, k3, k4, k5, by rw [k6]; simp⟩
    rw [k2 b (fun e => hb (by simp [e])), hput b (fun e => hb (by simp [e]))]
/-- The value that recover yields. -/
def recV : Option PV → PV
  | none => .nilIface
  | some x => x
def FinR (Hq : List Blk → Prop) : Post := fun x _ H => (x = .normal ∨ x = .ret) ∧ Hq H
/-- A deferred closure that begins by calling recover, from its body. -/
theorem DRec.start {g : FuncId} {gn : Func} {c : Code} {id d0 d1 : Nat} {ob oa : Oper} {caps : List V} {y : Option PV} {Hq : List Blk → Prop} (hf : P.funcs[g]? = some gn) (hb : gn.body = some (.seq (.region id #[ob, oa] false) c)) (hN : gn.ntmps = N) (hn : caps.length ≤ N) (hres : ∀ (a : Array Value) (w : World), (results gn a).run P w = .ok (.tuple #[]) w)
    (hob : ob.op = .call { callee := .builtin .recover, args := #[], argTypes := #[] }) (hdb : ob.dst = some d0) (hgb : ob.guard = none) (h0 : dstOk N (some d0) = true) (hoa : oa.op = .assign (.tmp d0)) (hda : oa.dst = some d1) (hga : oa.guard = none) (h1 : dstOk N (some d1) = true)
    (h : AWp P none N H.length c (FinR Hq) ((d1, .p (recV y)) :: (d0, .p (recV y)) :: slotsAt 0 caps) H) : DRec P g caps H y Hq := by
  subst hN
  intro w I ρ us u hi hus hu
  have hl := RelVL.length hus
  refine ⟨trivial, fun c₀ cs hc hroom => ?_⟩
  let b : Frame := { (default : Frame) with fn := g, kind := .deferred, roundOf := none }
  have henter : Frame.enter P g us.toArray .deferred = b.atR { tmps := us.toArray ++ Array.replicate (gn.ntmps - us.toArray.size) undef, defers := [] } [.code (.seq (.region id #[ob, oa] false) c)] := by
    simp [Frame.enter, Frame.atR, hf, hb, b]
  obtain ⟨a, ha⟩ : ∃ a : Act, a = { tmps := us.toArray ++ Array.replicate (gn.ntmps - us.toArray.size) undef, defers := [] } := ⟨_, rfl⟩
  have ht : TRel P w I ρ gn.ntmps (slotsAt 0 caps) a.tmps := by
    subst ha
    refine ⟨by simp; omega, fun s v hv => ?_⟩
    have := slotsAt_rel caps us 0 [] (List.replicate (gn.ntmps - us.length) undef) rfl hus s v hv
    have e : us.toArray ++ Array.replicate (gn.ntmps - us.toArray.size) undef = ([] ++ us ++ List.replicate (gn.ntmps - us.length) undef).toArray := by simp
    rw [e]; exact this
  -- what recover yields, and how the frame below is left then
  obtain ⟨v, u', hv, hset, hrec⟩ : ∃ v u', Rel w I (recV y) v ∧ settle u' = .returning ∧ (match recoverD (c₀ :: cs) with | some (x, cs') => x = v ∧ cs' = { c₀ with mode := u' } :: cs | none => v = .nilIface ∧ u' = c₀.mode) := by
    cases y with
    | none =>
      have hu : u = .returning := hu
      subst hu
      refine ⟨.nilIface, .returning, rfl, rfl, ?_⟩
      simp [recoverD, hc]
    | some x =>
      obtain ⟨v, rfl, hv⟩ := hu
      refine ⟨v, .panicking [{ v := v, recovered := true }], hv, rfl, ?_⟩
      simp [recoverD, hc]
  have hT2 : TRel P w I ρ gn.ntmps ((d1, .p (recV y)) :: (d0, .p (recV y)) :: slotsAt 0 caps) ((a.put ob.dst v).put oa.dst v).tmps := by
    rw [hdb, hda]
    have hv' : RelV P w I ρ (.p (recV y)) v := hv
    exact (ht.put (dst := some d0) h0 hv').put (dst := some d1) h1 hv'
  have hval : (a.put ob.dst v).eval (.tmp d0) = v := by
    have hlt : d0 < a.tmps.size := by
      have h3 : d0 < gn.ntmps := by simpa [dstOk, Nat.blt, Nat.lt_iff_add_one_le] using h0
      rw [ht.size]; exact h3
    rw [hdb]
    simp [Act.put, Act.eval, hlt]
  have hw := h ⟨w.heap.size, ρ, []⟩ w I ρ ((a.put ob.dst v).put oa.dst v) hi hT2 ⟨Nat.le_refl _, Nat.le_of_eq hi.len, List.prefix_refl _, [], by subst ha; rw [hdb, hda]; rfl, List.nodup_nil, fun _ h => by cases h⟩
  have hwS := wpSIn_seq (F := Fence.wide) (n := 0) (P := P) (Q := fun e a' cs' w' => cs' = { c₀ with mode := u' } :: cs ∧ QC H.length ⟨w.heap.size, ρ, []⟩ P gn.ntmps (FinR Hq) w I ρ e a' w') (a := a) (cs := c₀ :: cs) (w := w) (x := .region id #[ob, oa] false) (y := c) (by
    refine wpSIn_region ?_
    show wpOpsSIn Fence.wide 0 P #[ob, oa] _ [0, 1] a (c₀ :: cs) w
    have e0 : (#[ob, oa] : Array Oper)[0]? = some ob := rfl
    have e1 : (#[ob, oa] : Array Oper)[1]? = some oa := rfl
    have r0 : ∀ w, (execOp a.eval ob).run P w = .ok .recover w := fun w => by
      simp [execOp, hob, Go.resolve, Go.invoke, Go.builtin]
    have r1 : ∀ (a : Act) w, (execOp a.eval oa).run P w = .ok (.value (a.eval (.tmp d0))) w := fun a w => by
      simp [execOp, hoa]
    have next : Code.wpSIn Fence.wide 0 P c (fun e a' cs' w' => cs' = { c₀ with mode := u' } :: cs ∧ QC H.length ⟨w.heap.size, ρ, []⟩ P gn.ntmps (FinR Hq) w I ρ e a' w') ((a.put ob.dst v).put oa.dst v) ({ c₀ with mode := u' } :: cs) w :=
      wpSIn_of_wpIn rfl (wpIn_mono hw fun e a' w' q => ⟨rfl, q⟩)
    simp only [wpOpsSIn, e0, e1, Region.wanted, hgb, hga, r0, r1, if_true]
    refine ⟨fun _ _ => trivial, ?_⟩
    split at hrec
    · rename_i x cs' hq
      obtain ⟨rfl, rfl⟩ := hrec
      simp only [hq]
      refine ⟨fun _ _ => trivial, ?_⟩
      rw [hval]
      exact next
    · rename_i hq
      obtain ⟨rfl, rfl⟩ := hrec
      simp only [hq]
      refine ⟨fun _ _ => trivial, ?_⟩
      rw [hval]
      exact next)
  obtain ⟨e, a', cs', w', hlen, ⟨hcs, hq⟩, harr⟩ := hwS b [] rfl rfl trivial hroom
  rw [ha, ← henter] at harr
  obtain ⟨z, I', ρ', T', H', q1, ⟨q2, q3⟩, q4, q5, q6, hB, _, hpre, rs, q7, q8, q9⟩ := hq
  subst hcs
  have q7' : a'.defers = rs.map fun r => { target := .collected r, args := #[] } := by rw [q7]; exact List.append_nil _
  -- the way out
  have fin : ∀ todo, StepsIn (Machine.fenced P Fence.wide) P (lone (Frame.enter P g us.toArray .deferred) (c₀ :: cs) w) (lone { b.atR a' todo with mode := .returning } ({ c₀ with mode := u' } :: cs) w') →
      ∃ e u2 w2 fr, (e = .returned (.tuple #[]) ∧ settle u2 = .returning ∧ ∃ I' ρ' H', Hq H' ∧ Ext w I ρ w2 I' ρ' ∧ Inv P w2 I' ρ' H') ∧
        ComesIn (Machine.fenced P Fence.wide) P (lone (Frame.enter P g us.toArray .deferred) (c₀ :: cs) w) (lone fr ({ c₀ with mode := u2 } :: cs) w2) e ∧ fr.kind = .deferred ∧ fr.fn = g ∧ fr.going P w2 e := fun todo hs => by
    obtain ⟨w2, k0, k1, k2, k3, k4, k5⟩ := going_marks (P := P) (f := g) ({ c₀ with mode := u' } :: cs) rs w' { b.atR a' todo with mode := .returning } rfl q7' q8 (fun r hr => (q9 r hr).1)
    obtain ⟨m1, m2, m3, m4⟩ := marks_tail q4 q5 q6 hpre q9 k1 k2 k3 k4 k5
    exact ⟨.returned (.tuple #[]), u', w2, _, ⟨rfl, hset, I', ρ', H', q3, m3, m1⟩, StepsIn.trans hs k0, rfl, rfl, rfl, rfl, gn, hf, hres _ _⟩
  rcases q2 with rfl | rfl <;> cases e <;> first | exact q1.elim | skip
  · exact fin [] (StepsIn.trans harr (.one (fenced_wide P _) (stepR_end rfl)))
  · obtain ⟨todo, hs⟩ := harr.1 rfl
    exact fin todo hs
/-- What a function that has deferred a closure comes to. -/
def FinD (P : Program) (N : Nat) (fn : Func) (g : FuncId) (caps : List V) (Qr : V → List Blk → Prop) : Post
  | .normal, T, H => DRec P g caps H none fun H' => ∃ v, resV P N fn T H' v ∧ Qr v H'
  | .ret, T, H => DRec P g caps H none fun H' => ∃ v, resV P N fn T H' v ∧ Qr v H'
  | .panic y, T, H => ∃ x, y = .p x ∧ DRec P g caps H (some x) fun H' => ∃ v, resV P N fn T H' v ∧ Qr v H'
  | .exit _, _, _ => False
/-- A contract of a function that defers a closure, from its body. -/
theorem ACalls.startD {f g : FuncId} {fn : Func} {c0 c1 c2 : Code} {id dm : Nat} {om od : Oper} {args caps : List V} {T1 : Tm} {H1 : List Blk} {Qr : V → List Blk → Prop} {ts : Array TypeId} (hf : P.funcs[f]? = some fn) (hb : fn.body = some (.seq c0 (.seq c1 (.seq (.region id #[om, od] false) c2)))) (hN : fn.ntmps = N) (hn : args.length ≤ N)
    (h01 : AWp P none N H.length c0 (AX.then (AWp P none N H.length c1 (AX.then (fun T' H' => Sub T1 T' ∧ H' = H1) (FinO P N fn Qr))) (FinO P N fn Qr)) (slotsAt 0 args) H)
    (hom : OpJ P N om T1 H1 (.func (.func g) [] caps) H1) (hdm : om.dst = some dm) (hgm : om.guard = none) (hm : dstOk N (some dm) = true) (hod : od.op = .defer { callee := .value (.tmp dm), args := #[], argTypes := ts }) (hgd : od.guard = none) (hdd : od.dst = none) (hg : realFn P g = true)
    (h2 : AWp P none N H1.length c2 (FinD P N fn g caps Qr) ((dm, .func (.func g) [] caps) :: T1) H1) : ACalls P f args H Qr := by
  subst hN
  intro w I ρ us hi hus
  have hl := RelVL.length hus
  refine callsIn_of_wp_marks hf hb trivial ?_ rfl
  have ht : TRel P w I ρ fn.ntmps (slotsAt 0 args) (us.toArray ++ Array.replicate (fn.ntmps - us.toArray.size) undef) := by
    refine ⟨by simp; omega, fun s v hv => ?_⟩
    have := slotsAt_rel args us 0 [] (List.replicate (fn.ntmps - us.length) undef) rfl hus s v hv
    have e : us.toArray ++ Array.replicate (fn.ntmps - us.toArray.size) undef = ([] ++ us ++ List.replicate (fn.ntmps - us.length) undef).toArray := by simp
    rw [e]; exact this
  -- it leaves before it defers
  have early : ∀ (a' : Act) (w' : World) (T' : Tm) (H' : List Blk) (I' : Nat → Prop) (ρ' : List Nat) (rs : List Nat), (∃ v, resV P fn.ntmps fn T' H' v ∧ Qr v H') → ExtW w I ρ w' I' ρ' → Inv P w' I' ρ' H' → TRel P w' I' ρ' fn.ntmps T' a'.tmps → ρ <+: ρ' → a'.defers = (rs.map fun r => { target := .collected r, args := #[] }) ++ [] → rs.Nodup → (∀ r ∈ rs, w'.heap[r]? = some (Obj.deferred (some [])) ∧ ¬ I' r ∧ w.heap.size ≤ r) →
      LeavesInM Fence.wide 0 P fn a'.tmps (fun e w' => ∃ u v I' ρ' H', e = .returned u ∧ Qr v H' ∧ Ext w I ρ w' I' ρ' ∧ Inv P w' I' ρ' H' ∧ RelV P w' I' ρ' v u) a'.defers .returning w' := by
    rintro a' w' T' H' I' ρ' rs ⟨v, hv, hq⟩ h3 h4 h5 hpre h6 h7 h8
    rw [h6]
    refine leaves_marksT (by simp) rs w' h7 (fun r hr => (h8 r hr).1) ?_
    intro w2 k1 k2 k3 k4 k5
    obtain ⟨m1, m2, m3, m4⟩ := marks_tail h3 h4 h5 hpre h8 k1 k2 k3 k4 k5
    obtain ⟨u, hu1, hu2⟩ := hv w2 I' ρ' a'.tmps m1 m2
    simp only [LeavesInM, LeavesIn]
    exact ⟨u, hu1, u, v, I', ρ', H', rfl, hq, m3, m1, hu2⟩
  -- behind the deferred call
  have late : ∀ (a1 : Act) (w1 : World) (I1 : Nat → Prop) (ρ1 : List Nat), ExtW w I ρ w1 I1 ρ1 → ρ <+: ρ1 → Inv P w1 I1 ρ1 H1 → TRel P w1 I1 ρ1 fn.ntmps T1 a1.tmps → ∀ rs : List Nat, a1.defers = (rs.map fun r => { target := .collected r, args := #[] }) ++ [] → rs.Nodup → (∀ r ∈ rs, w1.heap[r]? = some (Obj.deferred (some [])) ∧ ¬ I1 r ∧ w.heap.size ≤ r) →
      (Code.seq (.region id #[om, od] false) c2).wpIn Fence.wide 0 P (bodyPostM Fence.wide 0 P fn fun e w' => ∃ u v I' ρ' H', e = .returned u ∧ Qr v H' ∧ Ext w I ρ w' I' ρ' ∧ Inv P w' I' ρ' H' ∧ RelV P w' I' ρ' v u) a1 w1 := by
    intro a1 w1 I1 ρ1 hE1 hpre1 hi1 ht1 rs hd1 hnd1 hrs1
    refine wpIn_seq (wpIn_region_lit ?_)
    refine wpListIn_plain hgm fun K hK => ?_
    refine hom none w1 I1 ρ1 a1 hi1 ht1 K _ fun u w2 I2 ρ2 hE2 hi2 hv => hK _ _ ?_
    have ht2 : TRel P w2 I2 ρ2 fn.ntmps ((dm, .func (.func g) [] caps) :: T1) (a1.put om.dst u).tmps := by
      have := (ht1.ext hE2).put (a := a1) (dst := om.dst) (by rw [hdm]; exact hm) hv
      rw [hdm] at this ⊢
      exact this
    obtain ⟨fi, ca, hu, hfi, hca⟩ := hv
    have hfi0 : fi.toList = [] := hfi
    have hfi1 : fi = #[] := by apply Array.ext'; simpa using hfi0
    subst hfi1
    have hval : (a1.put om.dst u).eval (.tmp dm) = u := by
      have hlt : dm < a1.tmps.size := by
        have h3 : dm < fn.ntmps := by simpa [dstOk, Nat.blt, Nat.lt_iff_add_one_le] using hm
        rw [ht1.size]; exact h3
      rw [hdm]
      simp [Act.put, Act.eval, hlt]
    refine wpListIn_plain hgd fun K hK => ?_
    refine ⟨fun _ _ => trivial, ?_⟩
    obtain ⟨D, hD⟩ : ∃ D : Deferred, D = { target := .fn (.func g) ca, args := #[] } := ⟨_, rfl⟩
    have hrun : (Oper.semAt none (a1.put om.dst u).eval od).run P w2 = .ok (.defer D) w2 := by
      rw [Oper.semAt_none, hD]
      rw [hu] at hval ⊢
      simp only [execOp, hod, Go.resolve, hval]
      simp [Deferred.ofValue]
    show od.uponIn Fence.wide 0 P (a1.put om.dst u) K _ ((Oper.semAt none (a1.put om.dst u).eval od).run P w2)
    rw [hrun, Oper.uponIn_defer, hdd]
    refine hK _ _ (wpListIn_nil ?_)
    have hdef : (a1.put om.dst u).defers = a1.defers := by rw [hdm]; rfl
    have hw2 := h2 ⟨w2.heap.size, ρ2, D :: a1.defers⟩ w2 I2 ρ2 { (a1.put om.dst u) with defers := D :: (a1.put om.dst u).defers } hi2 ht2 ⟨Nat.le_refl _, Nat.le_of_eq hi2.len, List.prefix_refl _, [], by rw [hdef]; rfl, List.nodup_nil, fun _ h => by cases h⟩
    have tail : ∀ (a' : Act) (w3 : World) (I3 : Nat → Prop) (ρ3 : List Nat) (T3 : Tm) (H3 : List Blk) (y : Option PV) (md : FrameMode), DRec P g caps H3 y (fun H' => ∃ v, resV P fn.ntmps fn T3 H' v ∧ Qr v H') → modeR w3 I3 y md → ExtW w2 I2 ρ2 w3 I3 ρ3 → Inv P w3 I3 ρ3 H3 → TRel P w3 I3 ρ3 fn.ntmps T3 a'.tmps → Marks H1.length ⟨w2.heap.size, ρ2, D :: a1.defers⟩ w3 I3 ρ3 a'.defers →
        LeavesInM Fence.wide 0 P fn a'.tmps (fun e w' => ∃ u v I' ρ' H', e = .returned u ∧ Qr v H' ∧ Ext w I ρ w' I' ρ' ∧ Inv P w' I' ρ' H' ∧ RelV P w' I' ρ' v u) a'.defers md w3 := by
      rintro a' w3 I3 ρ3 T3 H3 y md hrec hmd q4 q5 q6 ⟨hB, _, hpre, rs3, q7, q8, q9⟩
      have hrunm : md ≠ .run := by
        cases y with
        | none => rw [show md = .returning from hmd]; simp
        | some x => obtain ⟨v, e, _⟩ := hmd; rw [e]; simp
      rw [q7]
      refine leaves_marksT hrunm rs3 w3 q8 (fun r hr => (q9 r hr).1) ?_
      intro w4 k1 k2 k3 k4 k5
      obtain ⟨m1, m2, m3, m4⟩ := marks_tail q4 q5 q6 hpre q9 k1 k2 k3 k4 k5
      have hmd4 : modeR w4 I3 y md := by
        cases y with
        | none => exact hmd
        | some x => obtain ⟨v, e, hv⟩ := hmd; exact ⟨v, e, Rel.mono (fun _ h => h) m4 _ _ hv⟩
      have hca4 : RelVL P w4 I3 ρ3 caps ca.toList := RelVL.ext m3 hca
      subst hD
      refine ⟨hrunm, .inr ⟨(by intro h; cases h), _, _, g, ca.toList.toArray, rfl, ?_, fun _ _ => trivial, ?_⟩⟩
      · show (Go.invoke (.fn (.func g) ca) #[]).run P w4 = _
        simp only [Go.invoke, run_callFunc hg]
        simp
      · refine CallsDIn.mono (hrec w4 I3 ρ3 ca.toList md m1 hca4 hmd4) ?_
        rintro e u' w5 ⟨rfl, hset, I5, ρ5, H5, hq5, hE5, hi5⟩
        show LeavesInM _ _ _ _ _ _ a1.defers (settle u') w5
        rw [hset]
        have hE15 : Ext w1 I1 ρ1 w5 I5 ρ5 := (hE2.trans m3).trans hE5
        exact early { tmps := a'.tmps, defers := a1.defers } w5 T3 H5 I5 ρ5 rs hq5 (hE1.trans hE15.w) hi5 (m2.ext hE5) (hpre1.trans hE15.pre) hd1 hnd1 fun r hr => ⟨hE15.w.defKeep r (hrs1 r hr).1, fun h => (hrs1 r hr).2.1 (hE15.w.defI r (hrs1 r hr).1 h), (hrs1 r hr).2.2⟩
    refine wpIn_mono hw2 ?_
    rintro e a' w3 ⟨z, I3, ρ3, T3, H3, q1, q2, q4, q5, q6, q7⟩
    cases z <;> cases e <;> first | exact q1.elim | exact q2.elim | skip
    · exact tail a' w3 I3 ρ3 T3 H3 none .returning q2 rfl q4 q5 q6 q7
    · exact tail a' w3 I3 ρ3 T3 H3 none .returning q2 rfl q4 q5 q6 q7
    · obtain ⟨x, rfl, q2⟩ := q2
      obtain ⟨v, rfl, hv⟩ := q1
      exact tail a' w3 I3 ρ3 T3 H3 (some x) _ q2 ⟨v, rfl, hv⟩ q4 q5 q6 q7
  have out : ∀ (z : AX) (e : Exit) (a' : Act) (w' : World), z ≠ .normal → QC H.length ⟨w.heap.size, ρ, []⟩ P fn.ntmps (fun x T H => x = z ∧ FinO P fn.ntmps fn Qr x T H) w I ρ e a' w' →
      bodyPostM Fence.wide 0 P fn (fun e w' => ∃ u v I' ρ' H', e = .returned u ∧ Qr v H' ∧ Ext w I ρ w' I' ρ' ∧ Inv P w' I' ρ' H' ∧ RelV P w' I' ρ' v u) e a' w' := by
    rintro z e a' w' hz ⟨x, I', ρ', T', H', q1, ⟨rfl, q2, q3⟩, q4, q5, q6, hB, _, hpre, rs, q7, q8, q9⟩
    rcases q2 with rfl | rfl
    · exact absurd rfl hz
    · cases e <;> first | exact q1.elim | exact early a' w' T' H' I' ρ' rs q3 q4 q5 q6 hpre q7 q8 q9
  refine wpIn_seq (wpIn_mono (h01 ⟨w.heap.size, ρ, []⟩ w I ρ { tmps := us.toArray ++ Array.replicate (fn.ntmps - us.toArray.size) undef, defers := [] } hi ht ⟨Nat.le_refl _, Nat.le_of_eq hi.len, List.prefix_refl _, [], rfl, List.nodup_nil, fun _ h => by cases h⟩) ?_)
  rintro e a' w' ⟨z, I', ρ', T', H', q1, q2, q4, q5, q6, q7⟩
  cases z with
  | normal =>
    cases e <;> first | exact q1.elim | skip
    refine wpIn_seq (wpIn_mono (q2 ⟨w.heap.size, ρ, []⟩ w' I' ρ' a' q5 q6 q7) ?_)
    rintro e a2 w2 ⟨z, I2, ρ2, T2, H2, p1, p2, p4, p5, p6, p7⟩
    cases z with
    | normal =>
      cases e <;> first | exact p1.elim | skip
      obtain ⟨p2, rfl⟩ := p2
      obtain ⟨hB, _, hpre, rs, p8, p9, p10⟩ := p7
      exact late a2 w2 I2 ρ2 (q4.trans p4) hpre p5 (p6.sub p2) rs p8 p9 p10
    | ret =>
      have := out .ret e a2 w2 (by simp) ⟨.ret, I2, ρ2, T2, H2, p1, ⟨rfl, p2⟩, q4.trans p4, p5, p6, p7⟩
      cases e <;> first | exact p1.elim | exact this
    | exit i => exact absurd p2.1 (by rintro (h | h) <;> cases h)
    | panic v => exact absurd p2.1 (by rintro (h | h) <;> cases h)
  | ret =>
    have := out .ret e a' w' (by simp) ⟨.ret, I', ρ', T', H', q1, ⟨rfl, q2⟩, q4, q5, q6, q7⟩
    cases e <;> first | exact q1.elim | exact this
  | exit i => exact absurd q2.1 (by rintro (h | h) <;> cases h)
  | panic v => exact absurd q2.1 (by rintro (h | h) <;> cases h)
end
end Go.AF
end

section
set_option linter.unusedVariables false
set_option linter.unusedSimpArgs false
namespace Go.AF
open Go
section
variable {P : Program} {R : Option Nat} {N κ : Nat} {Q : Post} {T : Tm} {H H' : List Blk} {o : Oper} {ops : Array Oper} {rest : List Oper}
/-- New blocks of which nothing is known. -/
theorem Ext.grow {w : World} {I : Nat → Prop} {ρ : List Nat} (hi : Inv P w I ρ H) (k : Nat) (os : Array Obj) : Ext w I ρ (Go.Sort.grow (w.drewN k) os) I ρ ∧ Inv P (Go.Sort.grow (w.drewN k) os) I ρ H := by
  have hold : ∀ b, b < w.heap.size → (Go.Sort.grow (w.drewN k) os).heap[b]? = w.heap[b]? := fun b hb => Array.getElem?_append_left hb
  have hsz : w.heap.size ≤ (Go.Sort.grow (w.drewN k) os).heap.size := by
    show w.heap.size ≤ (w.heap ++ os).size
    rw [Array.size_append]; omega
  have hE : Ext w I ρ (Go.Sort.grow (w.drewN k) os) I ρ := ⟨⟨rfl, rfl, rfl, hsz, fun b hb _ => hold b hb, fun b s h => (shape_of_block (hold b (shape_lt h))).trans h, fun _ h => h, fun b h => hold b (hi.ib b h),
    fun b h => .inl h, fun b h => .inl h, fun b h => (hold b (Array.getElem?_eq_some_iff.1 h).1).trans h, fun _ _ h => h, fun _ h => .inl h⟩, List.prefix_refl _⟩
  exact ⟨hE, hi.same hE (fun b h => Nat.lt_of_lt_of_le (hi.ib b h) hsz) (fun _ _ h => h) hold⟩
theorem Pure.ofGrow {f : FuncId} {us : List Value} {args : List PV} {r : PV} (hrel : ∀ w I vs, RelL w I args vs → vs = us) (h : ∀ (w : World) (I : Nat → Prop), GOk P w I → Calls P f us.toArray w fun e w' => ∃ u, e = .returned u ∧ (∀ w I, Rel w I r u) ∧ ∃ k os, w' = Go.Sort.grow (w.drewN k) os) : Pure P f args r := by
  intro w I ρ vs hi hvs
  have e := hrel w I vs (RelVL.pure.1 hvs)
  subst e
  refine CallsIn.mono ((callsIn_wide (n := 0)).2 (h w I hi.gl)) ?_
  rintro e w' ⟨u, rfl, hu, k, os, rfl⟩
  obtain ⟨h1, h2⟩ := Ext.grow hi k os
  exact ⟨u, .p r, I, ρ, [], rfl, ⟨rfl, rfl⟩, h1, h2, hu _ _⟩
/-- A table that is laid. -/
theorem tab_of {w : World} {I : Nat → Prop} {nm : String} {g : Nat} {k : IntKind} {zs : List Int} (hg : GOk P w I) (hm : (g, zs.map (PV.int k)) ∈ laidG P) (hn : P.globalNamed nm = some g) : Lib.TabIs P w nm k zs := by
  obtain ⟨h1, h2, arr, e, fr, h3, h4⟩ := hg.1 _ hm
  have key : ∀ (ns : List Int) (o : Nat), RelAt w I (ns.map (PV.int k)) g o → ∀ i n, ns[i]? = some n → w.cell? ⟨g, o + i, none⟩ = some (.int k n) := by
    intro ns
    induction ns with
    | nil => intro o _ i n h; cases h
    | cons m ns ih =>
      intro o h i n hn
      obtain ⟨⟨u, hu, hr⟩, h5⟩ := h
      cases i with
      | zero => cases hn; rw [Nat.add_zero, hu]; exact congrArg some hr
      | succ i =>
        have := ih (o + 1) h5 i n hn
        rwa [show o + 1 + i = o + (i + 1) by omega] at this
  have hcell := key zs 0 h2
  unfold Lib.TabIs World.var?
  rw [hn]
  simp only [Option.bind_some]
  simp only at h3
  rw [h3]
  simp only [Option.some.injEq]
  rw [List.length_map] at h4
  apply Array.ext'
  apply List.ext_getElem?
  intro i
  rw [List.toList_toArray, List.getElem?_map]
  cases hz : zs[i]? with
  | none =>
    have : zs.length ≤ i := by simpa using hz
    rw [Option.map_none, List.getElem?_eq_none]
    rw [Array.length_toList]; omega
  | some n =>
    have h6 := hcell i n hz
    simp only [World.cell?, h3, Nat.zero_add] at h6
    simpa using h6
theorem OpJ.cst {k : IntKind} {a b : Int} (h : OpJ P N o T H (.p (.int k a)) H') (e : a = b) : OpJ P N o T H (.p (.int k b)) H' := e ▸ h
/-! ### Type assertions by what a value is -/
def taRel (P : Program) (t : TypeId) (v r : PV) : Prop := ∃ s y, v = .iface s y ∧ (s = t ∧ r = .tuple [y, .bool true] ∨ Nat.beq s t = false ∧ ∃ z, zeroI P t = some z ∧ r = .tuple [z, .bool false])
theorem OpJ.taG {x : Operand} {t xt : TypeId} {v r : PV} (ho : o.op = .typeAssert x xt t true) (hx : ev T x = some (.p v)) (ht : conI P t = true) (hr : taRel P t v r) : OpJ P N o T H (.p r) H := by
  obtain ⟨s, y, rfl, ⟨rfl, rfl⟩ | ⟨h1, z, h2, rfl⟩⟩ := hr
  · exact OpJ.taYes ho hx ht
  · exact OpJ.taNo ho hx ht h1 h2
end
end Go.AF
end

section
set_option linter.unusedVariables false
set_option linter.unusedSimpArgs false
namespace Go.AF
open Go
def allC : Tm → Prop
  | [] => True
  | (_, v) :: r => (∃ x, v = V.p x) ∧ allC r
theorem allC.at {T : Tm} : allC T → ∀ s v, lk T s = some v → ∃ x, v = V.p x := by
  induction T with
  | nil => intro _ s v h; cases h
  | cons y T ih =>
    obtain ⟨a, u⟩ := y
    intro h s v hv
    simp only [lk] at hv
    cases hb : Nat.beq a s with
    | true => rw [hb] at hv; cases hv; exact h.1
    | false => rw [hb] at hv; exact ih h.2 s v hv
section
variable {P : Program} {R : Option Nat} {N κ : Nat} {Q : Post} {T T0 : Tm} {H : List Blk}
theorem AWp.loc {c : Code} (T0 : Tm) (hs : Sub T0 T) (hp : allC T0) (h : AWp P R N 0 c (fun x T3 H3 => x = .normal ∧ ∃ T4, Sub T4 T3 ∧ allC T4 ∧ Q .normal T4 H) T0 []) : AWp P R N κ c Q T H := by
  intro B w I ρ a hi ht hm
  have ht0 : TRel P w I [] N T0 a.tmps := ⟨ht.size, fun s v hv => by
    obtain ⟨x, rfl⟩ := hp.at s v hv
    exact (ht.sub hs).at_ s _ hv⟩
  refine wpIn_mono (h ⟨w.heap.size, [], a.defers⟩ w I [] a hi.nothing ht0 ⟨Nat.le_refl _, Nat.le_refl _, List.prefix_refl _, [], rfl, List.nodup_nil, fun _ h => by cases h⟩) ?_
  rintro e a' w' ⟨z, I', ρ', T3, H3, h1, ⟨rfl, T4, h2, h3, h4⟩, h5, h6, h7, hB, _, hpre, rs, h8, h9, h10⟩
  cases e <;> first | exact h1.elim | skip
  obtain ⟨hB0, hκ, hp0, rs0, h11, h12, h13⟩ := hm
  have hkeep : ∀ b, b < w.heap.size → w'.heap[b]? = w.heap[b]? := fun b hb => h5.keep b hb (by simp)
  have hE : ExtW w I ρ w' I' ρ := ⟨h5.os, h5.tape, h5.output, h5.size, fun b hb _ => hkeep b hb, h5.shape, h5.imm, h5.immKeep, fun b hb => by
    rcases h5.immNew b hb with h | h | h
    · exact .inl h
    · cases h
    · exact .inr (.inr h), h5.nf, h5.defKeep, h5.defI, fun b hb => .inl hb⟩
  have hE2 : Ext w I ρ w' I' ρ := ⟨hE, List.prefix_refl _⟩
  have hI : Inv P w' I' ρ H := hi.same hE2 (fun b hb => h6.ib b hb) (fun b hb hI' => by
    rcases h5.immNew b hI' with h | h | h
    · exact h
    · cases h
    · omega) hkeep
  refine ⟨.normal, I', ρ, T4, H, trivial, h4, hE, hI, ⟨h7.size, fun s v hv => ?_⟩, Nat.le_trans hB0 h5.size, hκ, hp0, rs ++ rs0, ?_, ?_, ?_⟩
  · obtain ⟨x, rfl⟩ := h3.at s v hv
    exact (h7.sub h2).at_ s _ hv
  · rw [h8]
    show _ ++ a.defers = _
    rw [h11, List.map_append, List.append_assoc]
  · refine List.nodup_append.2 ⟨h9, h12, fun r hr r2 hr2 e => ?_⟩
    subst e
    have := (Array.getElem?_eq_some_iff.1 (h13 r hr2).1).1
    have := (h10 r hr).2.2
    simp only at this
    omega
  · intro r hr
    rcases List.mem_append.1 hr with hr | hr
    · exact ⟨(h10 r hr).1, (h10 r hr).2.1, Nat.le_trans hB0 (h10 r hr).2.2⟩
    · exact ⟨h5.defKeep r (h13 r hr).1, fun h => (h13 r hr).2.1 (h5.defI r (h13 r hr).1 h), (h13 r hr).2.2⟩
end
end Go.AF
end

section
set_option linter.unusedVariables false
set_option linter.unusedSimpArgs false
namespace Go.AF
open Go
/-- A reader's block. -/
def rB (e : TypeId) (r : List UInt8) : Blk := .cells [.p (.str (sB r))] e
section
variable {P : Program} {R : Option Nat} {N κ : Nat} {Q : Post} {T : Tm} {H H' : List Blk} {o : Oper} {ops : Array Oper} {rest : List Oper}
/-- What a reader's method does: it takes a result and leaves a rest, or panics. -/
def ACallsR (P : Program) (e : TypeId) (mis : PV) (g : FuncId) (args : List PV) (l : List UInt8) (res : Option (PV × List UInt8)) : Prop :=
  ACallsP P g (.ptr 0 0 :: args.map .p) [rB e l] (fun v H' => ∃ r l', res = some (r, l') ∧ v = .p r ∧ H' = [rB e l']) (fun y _ => res = none ∧ y = mis)
theorem AList.callR (d i : Nat) {e : TypeId} {mis : PV} {g : FuncId} {args : List PV} {l : List UInt8} {res : Option (PV × List UInt8)} (hp : ACallsR P e mis g args l res) (hi : H[i]? = some (rB e l)) {f : Operand} {xs : Array Operand} {ts : Array TypeId} {fv : V} {vs : List V}
    (ho : o.op = .call { callee := .value f, args := xs, argTypes := ts }) (hd : o.dst = some d) (hN : dstOk N (some d) = true) (hgd : o.guard = none) (hf : ev T f = some fv)
    (hxs : evs T xs.toList = some vs) (hc : callee vs fv = some (g, .ptr i 0 :: args.map .p)) (hg : realFn P g = true) (hpan : res = none → Q (.panic (.p mis)) T (H.set i .dead)) (next : ∀ r l', res = some (r, l') → AList P R N κ ops rest Q ((d, .p r) :: T) (H.set i (rB e l'))) : AList P R N κ ops (o :: rest) Q T H := by
  have hil : i < H.length := (List.getElem?_eq_some_iff.1 hi).1
  have gi : H.getD i .dead = rB e l := by rw [List.getD_eq_getElem?_getD, hi]; rfl
  have pi : plL H [i] i = some 0 := by
    unfold plL
    rw [gi, if_pos (show (rB e l).live = true from rfl)]
    simp [pl, List.idxOf?, List.findIdx?_cons]
  refine AList.callPK (args0 := .ptr 0 0 :: args.map .p) (H0 := [rB e l]) d [i] hp ?_ ?_ ?_ ?_ ho hd hN hgd hf hxs hc hg ?_ ?_
  · simp only [renL, renV, pi, renL_pure]
  · simp only [List.map_cons, List.map_nil, gi]
    rfl
  · simp [Nat.blt, hil]
    omega
  · rintro v H' ⟨r, l', _, _, rfl⟩
    refine ⟨by simp, fun j' i' y h1 h2 h3 => ?_⟩
    cases j' with
    | zero => cases h1; rw [gi] at h2; cases h2
    | succ j' => simp at h1
  · rintro y H0' ⟨h1, rfl⟩
    exact hpan h1
  · rintro v H' ⟨r, l', h1, rfl, rfl⟩
    have e1 : backK H [i] [rB e l'] = H.set i (rB e l') := by
      unfold backK
      simp [putK, rB, renB, renL, renV]
    rw [e1]
    exact next r l' h1
/-- A function that always panics. -/
def AFail (P : Program) (g : FuncId) (args : List PV) (mis : PV) : Prop := ACallsP P g (args.map .p) [] (fun _ _ => False) (fun y _ => y = mis)
theorem AList.callFail (d : Nat) {mis : PV} {g : FuncId} {args : List PV} (hp : AFail P g args mis) {f : Operand} {xs : Array Operand} {ts : Array TypeId} {fv : V} {vs : List V}
    (ho : o.op = .call { callee := .value f, args := xs, argTypes := ts }) (hd : o.dst = some d) (hN : dstOk N (some d) = true) (hgd : o.guard = none) (hf : ev T f = some fv)
    (hxs : evs T xs.toList = some vs) (hc : callee vs fv = some (g, args.map .p)) (hg : realFn P g = true) (hpan : Q (.panic (.p mis)) T H) : AList P R N κ ops (o :: rest) Q T H := by
  refine AList.callPK (args0 := args.map .p) (H0 := []) d [] hp (renL_pure _ _) rfl rfl (fun v H' h => h.elim) ho hd hN hgd hf hxs hc hg ?_ (fun v H' h => h.elim)
  rintro y H0' rfl
  exact hpan
theorem FinOP.one {fn : Func} {r : ResultVar} {v : V} {Qr : V → List Blk → Prop} {Qp : PV → List Blk → Prop} (h : fn.results = #[r]) (hr : resOne P T H r v) (hq : Qr v H) : FinOP P N fn Qr Qp .ret T H := FinO.one h hr hq
end
end Go.AF
end

section
set_option linter.unusedVariables false
set_option linter.unusedSimpArgs false
namespace Go.AF
open Go
section
variable {P : Program} {R : Option Nat} {N κ : Nat} {Q : Post} {T : Tm} {H H' : List Blk} {o : Oper} {ops : Array Oper} {rest : List Oper}
theorem OpJ.rowLo {x : Operand} {t : TypeId} {lo : Option Operand} {i len l sz : Nat} (ho : o.op = .slice t x lo none none) (hx : ev T x = some (.row i len)) (ht : isSl P t = true) (he : elI P t = some sz) (hl : bnd T lo 0 l) (h1 : l < len) : OpJ P N o T H (.sl i (l * sz) (len - l)) H :=
  OpJ.of_pure (by simp [ho]) fun w I ρ a hi' hT => by
    cases hu : P.underlying t with
    | none => simp [isSl, hu] at ht
    | some d =>
      cases d <;> simp [isSl, hu] at ht
      rename_i e
      simp only [elI, hu, Option.map_eq_some_iff] at he
      obtain ⟨⟨b, m⟩, htm, rfl⟩ := he
      obtain ⟨blk, e', cap, hρ, hsl, hsh, hle⟩ := hT.ev hx
      have hbs := run_bounds (isS := true) (cap := cap) (hi := none) hT hl (show bnd T none len len from rfl) (by omega) hle
      simp only [Option.map_none] at hbs
      have hc : ¬ cap = l := by omega
      refine ⟨.slice (some ⟨blk, l * m, none⟩) (len - l) (cap - l), ?_, blk, cap - l, hρ, rfl, by omega⟩
      simp [execOp, ho, Instr.sliceAt, run_underlying hu, hsl, Instr.slice, hbs, run_sizeOf' htm, add_none, hc]
theorem OpJ.rowHi {x : Operand} {t : TypeId} {hi : Option Operand} {i len h sz : Nat} (ho : o.op = .slice t x none hi none) (hx : ev T x = some (.row i len)) (ht : isSl P t = true) (he : elI P t = some sz) (hh : bnd T hi len h) (h1 : h ≤ len) : OpJ P N o T H (.row i h) H :=
  OpJ.of_pure (by simp [ho]) fun w I ρ a hi' hT => by
    cases hu : P.underlying t with
    | none => simp [isSl, hu] at ht
    | some d =>
      cases d <;> simp [isSl, hu] at ht
      rename_i e
      simp only [elI, hu, Option.map_eq_some_iff] at he
      obtain ⟨⟨b, m⟩, htm, rfl⟩ := he
      obtain ⟨blk, e', cap, hρ, hsl, hsh, hle⟩ := hT.ev hx
      have hbs := run_bounds (isS := true) (cap := cap) (lo := none) hT (show bnd T none 0 0 from rfl) hh (Nat.zero_le _) (by omega)
      simp only [Option.map_none] at hbs
      refine ⟨.slice (some ⟨blk, 0, none⟩) h cap, ?_, blk, e', cap, hρ, rfl, hsh, by omega⟩
      simp [execOp, ho, Instr.sliceAt, run_underlying hu, hsl, Instr.slice, hbs, run_sizeOf' htm, add_none]
def dstV (i off len : Nat) (v : V) : Prop := v = .sl i off len ∨ (off = 0 ∧ v = .row i len)
theorem OpJ.copyS {x y : Operand} {t t2 e : TypeId} {z : PV} {i off len n : Nat} {cs ys : List V} {xv yv : V} (ho : o.op = .call { callee := .builtin .copy, args := #[x, y], argTypes := #[t, t2] }) (hx : ev T x = some xv) (hd : dstV i off len xv) (hy : ev T y = some yv) (hs : slI P t = some (e, [z]))
    (hH : H[i]? = some (.row cs e)) (hsrc : asrc H 1 yv = some (ys, n)) (hcl : off + min n len ≤ cs.length) (hone : ys.all oneV = true) : OpJ P N o T H (.p (.int .i64 ((min n len : Nat) : Int))) (H.set i (.row (setAt cs off (ys.take (min n len))) e)) :=
  OpJ.of_run (by simp [ho]) fun w I ρ a hi hT => by
    obtain ⟨hu, ⟨bb, htk⟩, hz0, hz⟩ := slI_some hs
    have hdst : ∃ b cap, ρ[i]? = some b ∧ a.eval x = .slice (some ⟨b, off, none⟩) len cap := by
      have h := hT.ev hx
      rcases hd with rfl | ⟨rfl, rfl⟩
      · obtain ⟨b, cap, h1, h2, _⟩ := h; exact ⟨b, cap, h1, h2⟩
      · obtain ⟨b, e', cap, h1, h2, _⟩ := h; exact ⟨b, cap, h1, h2⟩
    obtain ⟨b, cap, hρ, hxu⟩ := hdst
    obtain ⟨us, ⟨ad, ycap, hyu⟩, _, hfc, hrel, hlen⟩ := run_asrc hi (hT.ev hy) hsrc
    obtain ⟨arr, hw, hal, har⟩ := hi.rel i b _ hρ hH
    obtain ⟨k, hk⟩ : ∃ k, k = min n len := ⟨_, rfl⟩
    rw [← hk] at hcl ⊢
    have hkn : k ≤ n := by omega
    have hun : ∀ u ∈ us.take k, oneU u = true := fun u h => one_of hrel hone u (List.mem_of_mem_take h)
    have hrelk : RelVL P w I ρ (ys.take k) (us.take k) := RelVL.take _ hrel
    have hyl := RelVL.length hrel
    have hcl2 := RelVL.length har
    have hlive : (Blk.row cs e).live = true := rfl
    have hf := hfc k hkn
    rw [Nat.mul_one] at hf
    have hul : (us.take k).length = k := by rw [List.length_take]; omega
    have hsz : off + k ≤ arr.size := by omega
    obtain ⟨w', arr', r1, r2, r3, r4, r5, r6, r7, r8, r9⟩ := run_storeCells_own (P := P) (w := w) (us.take k) arr w off 0 hw (by rw [hul]; omega) hun
    have hE : Ext w I ρ w' I ρ := Ext.write hi hρ hH hlive r5 r6 r7 r8 r9 (fun s h => by
      simp only [World.shape?, hw] at h
      simp only [World.shape?, r2, r3]
      exact h)
    have hfold : RelVL P w' I ρ (setAt cs off (ys.take k)) (arr'.toList.take cs.length) := by
      rw [r4]
      exact foldl_setAt (ys.take k) (us.take k) cs arr.toList (off + 0) (RelVL.ext hE hrelk) (by rw [List.length_take]; omega) (RelVL.ext hE har)
    refine ⟨.int .i64 k, w', I, ρ, .inl ?_, hE, Inv.write hi hρ hH hlive hE r8 r9 ?_, by simp [RelV, Rel]⟩
    · have hmin : Nat.min n len = k := hk.symm
      have hlo : (Builtin.lenOf (.slice ad n ycap)).run P w = .ok n w := by simp [Builtin.lenOf]
      have hsz1 : [z].length = 1 := rfl
      rw [hyu] at hf
      rw [hsz1] at htk
      simp [execOp, ho, Go.resolve, Go.invoke, Go.builtin, Builtin.copy_, run_underlying hu, hxu, run_sizeOf' htk, hyu, hlo, hmin, hf, r1, goInt]
    · refine ⟨arr', r2, ?_, ?_⟩
      · rw [setAt_length, r3]
        exact hal
      · rw [setAt_length]
        exact hfold
end
end Go.AF
end

section
set_option linter.unusedVariables false
set_option linter.unusedSimpArgs false
namespace Go.AF
open Go
section
variable {P : Program} {R : Option Nat} {N κ : Nat} {Q : Post} {T : Tm} {H H' : List Blk} {o : Oper} {ops : Array Oper} {rest : List Oper}
theorem ext_pad {w : World} {I : Nat → Prop} {ρ : List Nat} : Ext w I ρ w I (ρ ++ [w.heap.size]) := ⟨⟨rfl, rfl, rfl, Nat.le_refl _, fun _ _ _ => rfl, fun _ _ h => h, fun _ h => h, fun _ _ => rfl, fun _ h => .inl h, fun _ h => .inl h, fun _ h => h, fun _ _ h => h, fun k hk => by
    rcases List.mem_append.1 hk with h | h
    · exact .inl h
    · simp at h; subst h; exact .inr (Nat.le_refl _)⟩, ⟨_, rfl⟩⟩
theorem inv_pad {w : World} {I : Nat → Prop} {ρ : List Nat} (hi : Inv P w I ρ H) : Inv P w I (ρ ++ [w.heap.size]) (H ++ [.dead]) := by
  have hE : Ext w I ρ w I (ρ ++ [w.heap.size]) := ext_pad
  have old : ∀ (j k : Nat) (blk : Blk), (ρ ++ [w.heap.size])[j]? = some k → (H ++ [Blk.dead])[j]? = some blk → blk.live = true → ρ[j]? = some k ∧ H[j]? = some blk := fun j k blk h1 h2 h3 => by
    rcases get_append_one h2 with ⟨h4, h5⟩ | ⟨h4, h5⟩
    · rw [List.getElem?_append_left (by rw [hi.len]; exact h4)] at h1
      exact ⟨h1, h5⟩
    · subst h5; cases h3
  refine ⟨by simp [hi.len], fun j k blk h1 h2 h3 => ?_, hi.ib, fun j k blk h1 h2 h3 => ?_, fun j j' k x y h1 h2 h3 h4 h5 h6 => ?_, fun j k blk h1 h2 => ?_, hi.gl⟩
  · obtain ⟨h4, h5⟩ := old j k blk h1 h2 h3
    exact hi.bnd j k blk h4 h5 h3
  · obtain ⟨h4, h5⟩ := old j k blk h1 h2 h3
    exact hi.live j k blk h4 h5 h3
  · obtain ⟨h7, h8⟩ := old j k x h1 h3 h5
    obtain ⟨h9, h10⟩ := old j' k y h2 h4 h6
    exact hi.dist j j' k x y h7 h9 h8 h10 h5 h6
  · cases hl : blk.live with
    | false => exact RelB.dead_of hl
    | true =>
      obtain ⟨h4, h5⟩ := old j k blk h1 h2 hl
      exact RelB.ext hE hi h4 h5 rfl
theorem OpJ.appendNil0 {x y : Operand} {t t2 e : TypeId} {z : List PV} {ys : List V} {yv : V} (ho : o.op = .call { callee := .builtin .append, args := #[x, y], argTypes := #[t, t2] }) (hx : ev T x = some (.p .nilSlice)) (hy : ev T y = some yv) (hs : slI P t = some (e, z)) (ht2 : isSl P t2 = true)
    (hsrc : asrc H z.length yv = some (ys, 0)) : OpJ P N o T H (.p .nilSlice) (H ++ [.dead]) :=
  OpJ.of_run (by simp [ho]) fun w I ρ a hi hT => by
    obtain ⟨hu, ⟨bb, htk⟩, hz0, hz⟩ := slI_some hs
    have hxu : a.eval x = .slice none 0 0 := hT.ev hx
    obtain ⟨us, ⟨ad, ycap, hyu⟩, hfc, _, hrel, hlen⟩ := run_asrc hi (hT.ev hy) hsrc
    have hd2 : ∃ d2, P.underlying t2 = some (.slice d2) := by
      cases h : P.underlying t2 with
      | none => simp [isSl, h] at ht2
      | some d => cases d <;> simp [isSl, h] at ht2; exact ⟨_, rfl⟩
    obtain ⟨d2, hd2⟩ := hd2
    have hus : us = [] := List.eq_nil_of_length_eq_zero (by simpa using hlen)
    subst hus
    refine ⟨.slice none 0 0, w, I, ρ ++ [w.heap.size], .inl ?_, ext_pad, inv_pad hi, rfl⟩
    have h := hfc w (fun _ _ => rfl)
    rw [hyu] at h
    have hr : (Builtin.append_ #[t, t2] o.type #[.slice none 0 0, .slice ad 0 ycap]).run P w = .ok (.slice none 0 0) w := by
      simp [Builtin.append_, run_underlying hu, run_sizeOf' htk, run_underlying hd2, Builtin.lenOf, h, Result.andThen]
    simp [execOp, ho, Go.resolve, Go.invoke, Go.builtin, hxu, hyu, hr, Result.andThen]
/-- Appending to a slice that is nil as long as it is empty; what is appended may be empty. -/
theorem OpJ.appendAccN {x y : Operand} {t t2 e : TypeId} {z : List PV} {i len n by_ : Nat} {cs ys : List V} {yv : V} (ho : o.op = .call { callee := .builtin .append, args := #[x, y], argTypes := #[t, t2] }) (hx : ev T x = some (accV i len)) (hy : ev T y = some yv) (hs : slI P t = some (e, z)) (ht2 : isSl P t2 = true)
    (hH : H[i]? = some (accB cs e len)) (hcs : cs.length = len * z.length) (hsrc : asrc H z.length yv = some (ys, n)) (hone : ys.all oneV = true) (hby : byI P e = some by_) (hb0 : 0 < by_) (hb : (2 * (len + n) + 192) * by_ ≤ 281474976710656) :
    OpJ P N o T H (accV H.length (len + n)) (H.set i .dead ++ [accB (cs ++ ys) e (len + n)]) := by
  cases n with
  | zero =>
    cases len with
    | zero =>
      rw [set_self (show H[i]? = some Blk.dead from hH)]
      exact OpJ.appendNil0 ho hx hy hs ht2 hsrc
    | succ len => exact OpJ.appendRow (len := len + 1) (n := 0) ho hx hy hs ht2 hH hcs hsrc hone hby hb0 hb
  | succ n =>
    rw [accV_pos (show 0 < len + (n + 1) by omega), accB_pos (show 0 < len + (n + 1) by omega)]
    exact OpJ.appendAcc ho hx hy hs ht2 hH hcs hsrc (Nat.succ_pos _) hone hby hb0 hb
theorem OpJ.storeVac {x y : Operand} {t : TypeId} {b : Bool} {i off j n : Nat} {H' : List Blk} (ho : o.op = .store t x y) (hx : ev T x = some (.ptr i off)) (hy : ev T y = some (accV j n)) (ht : tyI P t = some (b, 1)) (hs : astore H i off [accV j n] = some H') : OpJ P N o T H .top H' := by
  have e : cellsV (accV j n) = [accV j n] := by cases n <;> rfl
  refine OpJ.store ho hx hy (by cases n <;> rfl) (by cases n <;> rfl) ht (by rw [e]; rfl) (by rw [e]; exact hs)
end
end Go.AF
end

section
set_option linter.unusedVariables false
set_option linter.unusedSimpArgs false
namespace Go.AF
open Go
section
variable {P : Program} {R : Option Nat} {N κ : Nat} {Q : Post} {T : Tm} {H H' : List Blk} {o : Oper} {ops : Array Oper} {rest : List Oper}
theorem OpJ.ifNeNil {x : Operand} {t t' : TypeId} (ho : o.op = .binOp .neq t x (.const .nilIface) t') (hx : ev T x = some (.p .nilIface)) (ht : ifcI P t = true) : OpJ P N o T H (.p (.bool false)) H :=
  OpJ.of_pure (by simp [ho]) fun w I ρ ac hi hT => by
    have hv : ac.eval x = .nilIface := hT.ev hx
    obtain ⟨ms, hu⟩ : ∃ ms, P.underlying t = some (.interface ms) := by
      unfold ifcI at ht
      cases hu : P.underlying t with
      | none => simp [hu] at ht
      | some d => cases d <;> simp [hu] at ht; exact ⟨_, rfl⟩
    have hb : (binOp .neq t .nilIface .nilIface).run P w = .ok (.bool false) w := by
      simp only [binOp]
      have hq : (Op.equal t .nilIface .nilIface).run P w = .ok true w := by
        show (Op.equalIn (9999 + 1) t .nilIface .nilIface).run P w = .ok true w
        generalize 9999 = d
        simp [Op.equalIn, run_underlying hu]
      simp [hq]
    have e0 : ac.eval (.const .nilIface) = .nilIface := rfl
    exact ⟨.bool false, by simp [execOp, ho, hv, e0, eqGuard, hb], by simp [RelV, Rel]⟩
theorem res0 {fn : Func} (h : fn.results = #[]) (a : Array Value) (w : World) : (results fn a).run P w = .ok (.tuple #[]) w := by simp [results, h]
end
end Go.AF
end

section
set_option linter.unusedVariables false
set_option linter.unusedSimpArgs false
namespace Go.AF
open Go
section
variable {P : Program} {N κ : Nat} {T : Tm} {H : List Blk}
end
end Go.AF
end

section
set_option linter.unusedVariables false
set_option linter.unusedSimpArgs false
namespace Go.AF
open Go
theorem flat_get {α β : Type} {f : α → List β} {sz : Nat} (hf : ∀ x, (f x).length = sz) (xs : List α) (k r : Nat) (hk : k < xs.length) (hr : r < sz) : (xs.flatMap f)[k * sz + r]? = (f xs[k])[r]? := by
  rw [← flat_win hf xs k hk, List.getElem?_take, if_pos hr, List.getElem?_drop]
/-- Numbers of other kinds than 64 bits with a sign. -/
def othP : PV → Bool
  | .int .i64 _ => false
  | .int _ _ => true
  | _ => false
def othL (l : List PV) : Bool := l.all othP
theorem oth_sc {x : PV} (h : othP x = true) : scP x = true := by
  cases x <;> first | rfl | cases h
theorem oth_ne {w : World} {I : Nat → Prop} {x : PV} {m : Int} (h : othP x = true) (hr : Rel w I x (.int .i64 m)) : False := by
  cases x with
  | int k n =>
    have h2 : Value.int .i64 m = .int k n := hr
    cases h2
    cases h
  | _ => cases h
theorem RelAt.sc {w : World} {I J : Nat → Prop} : ∀ (xs : List PV) (b o : Nat), (∀ x ∈ xs, scP x = true) → RelAt w I xs b o → RelAt w J xs b o
  | [], _, _, _, _ => trivial
  | x :: xs, b, o, h, ⟨⟨u, h1, h2⟩, h3⟩ => ⟨⟨u, h1, Rel.sc x u (h x (List.mem_cons_self ..)) h2⟩, RelAt.sc xs b (o + 1) (fun y hy => h y (List.mem_cons_of_mem _ hy)) h3⟩
/-- A value of the zone. -/
def zval (Z : List Nat) : Value → V
  | .slice (some ⟨b, o, none⟩) len cap => if len ≤ cap then (match pl Z b with | some j => .sl j o len | none => .top) else .top
  | _ => .top
def zblk (Z : List Nat) (w : World) (b : Nat) : Blk := match w.heap[b]? with
  | some (.cells arr e _) => .cells (arr.toList.map (zval Z)) e
  | _ => .dead
theorem zval_rel {P : Program} {w : World} {I : Nat → Prop} {Z : List Nat} (v : Value) : RelV P w I Z (zval Z v) v := by
  unfold zval
  split
  · rename_i b o len cap
    split
    · rename_i h
      split
      · rename_i j hj
        exact ⟨b, cap, pl_get hj, rfl, h⟩
      · trivial
    · trivial
  · trivial
theorem zval_relL {P : Program} {w : World} {I : Nat → Prop} {Z : List Nat} : ∀ l : List Value, RelVL P w I Z (l.map (zval Z)) l
  | [] => rfl
  | v :: l => ⟨v, l, rfl, zval_rel v, zval_relL l⟩
theorem pl_some {Z : List Nat} {b : Nat} (h : b ∈ Z) : ∃ j, pl Z b = some j := by
  cases hp : pl Z b with
  | some j => exact ⟨j, rfl⟩
  | none =>
    unfold pl at hp
    rw [List.idxOf?_eq_none_iff] at hp
    exact absurd h hp
/-- The zone: what is new, and shared with no string. -/
def zoneP (w w' : World) (b : Nat) : Bool := decide (w.heap.size ≤ b) && (match w'.heap[b]? with | some (.cells _ _ fr) => decide (fr = (0, 0)) | _ => false)
def zone (w w' : World) : List Nat := (List.range w'.heap.size).filter (zoneP w w')
theorem zone_mem {w w' : World} {b : Nat} (h : b ∈ zone w w') : b < w'.heap.size ∧ w.heap.size ≤ b ∧ ∃ arr e, w'.heap[b]? = some (.cells arr e (0, 0)) := by
  unfold zone at h
  rw [List.mem_filter, List.mem_range] at h
  obtain ⟨h1, h2⟩ := h
  unfold zoneP at h2
  rw [Bool.and_eq_true, decide_eq_true_eq] at h2
  refine ⟨h1, h2.1, ?_⟩
  have h3 := h2.2
  split at h3
  · rename_i arr e fr hh
    rw [decide_eq_true_eq] at h3
    subst h3
    exact ⟨arr, e, hh⟩
  · cases h3
theorem mem_zone {w w' : World} {b : Nat} {arr : Array Value} {e : TypeId} (h1 : w.heap.size ≤ b) (h2 : w'.heap[b]? = some (.cells arr e (0, 0))) : b ∈ zone w w' := by
  unfold zone
  rw [List.mem_filter, List.mem_range]
  refine ⟨(Array.getElem?_eq_some_iff.1 h2).1, ?_⟩
  unfold zoneP
  rw [h2]
  simp [h1]
theorem zone_nodup (w w' : World) : (zone w w').Nodup := List.Nodup.sublist (List.filter_sublist ..) List.nodup_range
/-! ### What the zone holds of a list of (number, list of numbers) -/
def zI (n : Int) : List PV := [.int .i64 n]
def zC (x : Int × List Int) : List PV := [.int .i64 x.1, .is (x.2.flatMap zI) x.2.length]
/-- The slice of the list begins at place o of block j0; the list of element i has ls[i] numbers, which are none of the cells that hold the lists. -/
def ZnOk (j0 o : Nat) (ls : List Nat) (H : List Blk) : Prop := ∀ i n, ls[i]? = some n → ∃ cs e j q, H[j0]? = some (.cells cs e) ∧ o + i * 2 + 1 < cs.length ∧ cs[o + i * 2 + 1]? = some (.sl j q n) ∧ ∀ k, k < n → (∃ cs' e', H[j]? = some (.cells cs' e') ∧ q + k < cs'.length) ∧ ∀ i', i' < ls.length → j = j0 → q + k ≠ o + i' * 2 + 1
theorem ZnOk.set {j0 o : Nat} {ls : List Nat} {H : List Blk} (h : ZnOk j0 o ls H) {j p : Nat} {cs : List V} {e : TypeId} {v : V} (hj : H[j]? = some (.cells cs e)) (hp : ∀ i', i' < ls.length → j = j0 → p ≠ o + i' * 2 + 1) : ZnOk j0 o ls (H.set j (.cells (cs.set p v) e)) := by
  have hlt : j < H.length := (List.getElem?_eq_some_iff.1 hj).1
  have key : ∀ (m : Nat) (cs1 : List V) (e1 : TypeId), H[m]? = some (.cells cs1 e1) → ∃ cs2, (H.set j (.cells (cs.set p v) e))[m]? = some (.cells cs2 e1) ∧ cs2.length = cs1.length ∧ ∀ r, (m = j → r ≠ p) → cs2[r]? = cs1[r]? := fun m cs1 e1 hm => by
    by_cases he : j = m
    · subst he
      rw [hj] at hm
      cases hm
      refine ⟨cs.set p v, by rw [List.getElem?_set_self hlt], List.length_set, fun r hr => ?_⟩
      rw [List.getElem?_set_ne (fun h => hr rfl h.symm)]
    · exact ⟨cs1, by rw [List.getElem?_set_ne he]; exact hm, rfl, fun _ _ => rfl⟩
  intro i n hn
  obtain ⟨cs1, e1, j1, q, h1, h2, h3, h4⟩ := h i n hn
  obtain ⟨cs2, g1, g2, g3⟩ := key j0 cs1 e1 h1
  have hi : i < ls.length := (List.getElem?_eq_some_iff.1 hn).1
  refine ⟨cs2, e1, j1, q, g1, by omega, by rw [g3 _ fun hh hr => hp i hi hh.symm hr.symm]; exact h3, fun k hk => ?_⟩
  obtain ⟨⟨cs3, e3, k1, k2⟩, k3⟩ := h4 k hk
  obtain ⟨cs4, m1, m2, _⟩ := key j1 cs3 e3 k1
  exact ⟨⟨cs4, e3, m1, by omega⟩, k3⟩
section
variable {P : Program}
/-- What a call with a text alone hands back can be written. -/
theorem ACalls.own {f : FuncId} {s : ByteArray} {l : List (Int × List Int)} {e : Int} (hp : Pure P f [.str s] (.tuple [.is (l.flatMap zC) l.length, .int .i64 e])) (hL : ∀ x ∈ laidG P, othL x.2 = true) (hM : P.globalNamed "internal/bytealg.MaxLen" = none) (hl : 0 < l.length) (hc : ∀ x ∈ l, x.2 ≠ []) :
    ACalls P f [.p (.str s)] [] fun v H' => ∃ j0 o, v = .tuple [.sl j0 o l.length, .p (.int .i64 e)] ∧ ZnOk j0 o (l.map fun x => x.2.length) H' := by
  intro w I ρ us hi hus
  obtain rfl : ρ = [] := List.eq_nil_of_length_eq_zero hi.len
  have hgl : GOk P w (fun b => ∃ x ∈ laidG P, x.1 = b) := ⟨fun x hx => by
    obtain ⟨h1, h2, h3⟩ := hi.gl.1 x hx
    exact ⟨⟨x, hx, rfl⟩, RelAt.sc _ _ _ (fun y hy => oth_sc (List.all_eq_true.1 (hL x hx) y hy)) h2, h3⟩, (fun h => absurd h (by decide)), fun g hg => by rw [hM] at hg; cases hg⟩
  have hi0 : Inv P w (fun b => ∃ x ∈ laidG P, x.1 = b) [] [] := ⟨rfl, (fun _ _ _ h => by simp at h), fun b ⟨x, hx, hb⟩ => hb ▸ hi.ib _ (hi.gl.1 x hx).1, (fun _ _ _ h => by simp at h), (fun _ _ _ _ _ h => by simp at h), (fun _ _ _ h => by simp at h), hgl⟩
  have hus0 : RelVL P w (fun b => ∃ x ∈ laidG P, x.1 = b) [] ([PV.str s].map .p) us := by
    obtain ⟨u, us', h1, h2, h3⟩ := hus
    exact ⟨u, us', h1, h2, h3⟩
  refine (hp w _ [] us hi0 hus0).mono ?_
  rintro e' w' ⟨u, v, I', ρ', H', rfl, ⟨rfl, rfl⟩, h3, h4, h5⟩
  obtain rfl : ρ' = [] := List.eq_nil_of_length_eq_zero h4.len
  have hZ : ∀ (b q : Nat) (m : Int), I' b → w'.cell? ⟨b, q, none⟩ = some (.int .i64 m) → b ∈ zone w w' := fun b q m hb hq => by
    obtain ⟨arr, el, fr, hw⟩ : ∃ arr el fr, w'.heap[b]? = some (.cells arr el fr) := by
      unfold World.cell? at hq
      cases hw : w'.heap[b]? with
      | none => simp [hw] at hq
      | some ob => cases ob <;> first | exact ⟨_, _, _, rfl⟩ | simp [hw] at hq
    have hno : ¬ ∃ x ∈ laidG P, x.1 = b := by
      rintro ⟨x, hx, rfl⟩
      obtain ⟨h1, h2, arr2, e2, fr2, h6, h7⟩ := hgl.1 x hx
      have h8 := h3.w.immKeep _ h1
      rw [h6] at h8
      have hlt : q < x.2.length := by
        rw [← h7]
        simp only [World.cell?, h8] at hq
        have := hq
        simp at this
        exact (Array.getElem?_eq_some_iff.1 this).1
      obtain ⟨u2, k1, k2⟩ := RelAt.get h2 (List.getElem?_eq_getElem hlt)
      have k3 : w'.cell? ⟨x.1, q, none⟩ = w.cell? ⟨x.1, 0 + q, none⟩ := by
        simp only [World.cell?, h8, h6, Nat.zero_add]
      rw [k3, k1] at hq
      cases hq
      exact oth_ne (List.all_eq_true.1 (hL x hx) _ (List.getElem_mem hlt)) k2
    have hfr : fr = (0, 0) := by
      rcases h3.w.nf b hb with h | h
      · exact absurd h hno
      · rcases h arr el fr hw with h | h
        · exact h
        · simp only [World.cell?, hw] at hq
          exact absurd (by simpa using hq) (h q m)
    subst hfr
    refine mem_zone ?_ hw
    rcases h3.w.immNew b hb with h | h | h
    · exact absurd h hno
    · cases h
    · exact h
  have hzb : ∀ i b : Nat, (zone w w')[i]? = some b → b < w'.heap.size ∧ w.heap.size ≤ b ∧ ∃ arr e, w'.heap[b]? = some (.cells arr e (0, 0)) ∧ zblk (zone w w') w' b = .cells (arr.toList.map (zval (zone w w'))) e := fun i b h => by
    obtain ⟨h1, h2, arr, el, h6⟩ := zone_mem (List.mem_of_getElem? h)
    exact ⟨h1, h2, arr, el, h6, by unfold zblk; rw [h6]⟩
  have hE : Ext w I [] w' I (zone w w') := ⟨⟨h3.w.os, h3.w.tape, h3.w.output, h3.w.size, h3.w.keep, h3.w.shape, fun _ h => h, fun b h => h3.w.keep b (hi.ib b h) (by simp), fun _ h => .inl h, fun _ h => .inl h, h3.w.defKeep, fun _ _ h => h, fun b hb => .inr (zone_mem hb).2.1⟩, List.nil_prefix⟩
  have hI : Inv P w' I (zone w w') ((zone w w').map (zblk (zone w w') w')) := by
    refine ⟨by rw [List.length_map], fun i b blk g1 g2 g3 => (hzb i b g1).1, fun b h => Nat.lt_of_lt_of_le (hi.ib b h) h3.w.size, fun i b blk g1 g2 g3 h => ?_, fun i j b x y g1 g2 g3 g4 g5 g6 => ?_, fun i b blk g1 g2 => ?_, hi.gl.mono (fun _ h => h) hE.w.immKeep⟩
    · have := hi.ib b h
      have := (hzb i b g1).2.1
      omega
    · exact (List.getElem?_inj (List.getElem?_eq_some_iff.1 g1).1 (zone_nodup w w')).1 (g1.trans g2.symm)
    · rw [List.getElem?_map, g1] at g2
      cases g2
      obtain ⟨_, _, arr, el, k1, k2⟩ := hzb i b g1
      rw [k2]
      exact ⟨arr, k1, zval_relL _⟩
  -- the list itself
  obtain ⟨us', rfl, h6⟩ := h5
  obtain ⟨ua, ur, hua, h7, h8⟩ := h6
  have hne : l.flatMap zC ≠ [] := fun h => by
    have h9 := congrArg List.length h
    rw [flat_len (c := 2) (fun _ => rfl)] at h9
    have h10 : l.length * 2 = 0 := h9
    omega
  rcases h7 with ⟨_, hz⟩ | ⟨b0, o, cap, k1, k2, rfl, k3⟩
  · omega
  have hI0 := k1 hne
  have hbox : ∀ i (x : Int × List Int), l[i]? = some x → w'.cell? ⟨b0, o + i * 2, none⟩ = some (.int .i64 x.1) := fun i x hx => by
    obtain ⟨hi2, hx2⟩ := List.getElem?_eq_some_iff.1 hx
    have g := flat_get (f := zC) (sz := 2) (fun _ => rfl) l i 0 hi2 (by decide)
    rw [hx2] at g
    obtain ⟨u, g1, g2⟩ := RelAt.get k3 g
    have g3 : u = .int .i64 x.1 := g2
    subst g3
    exact g1
  have hcol : ∀ i (x : Int × List Int), l[i]? = some x → ∃ b q c, w'.cell? ⟨b0, o + i * 2 + 1, none⟩ = some (.slice (some ⟨b, q, none⟩) x.2.length c) ∧ x.2.length ≤ c ∧ b ∈ zone w w' ∧ ∀ k, k < x.2.length → ∃ m, w'.cell? ⟨b, q + k, none⟩ = some (.int .i64 m) := fun i x hx => by
    obtain ⟨hi2, hx2⟩ := List.getElem?_eq_some_iff.1 hx
    have g := flat_get (f := zC) (sz := 2) (fun _ => rfl) l i 1 hi2 (by decide)
    rw [hx2] at g
    obtain ⟨u, g1, g2⟩ := RelAt.get k3 g
    have hx0 : 0 < x.2.length := List.length_pos_iff.2 (hc x (List.mem_of_getElem? hx))
    rcases g2 with ⟨_, g4⟩ | ⟨b, q, c, g4, g5, rfl, g6⟩
    · omega
    have gm : ∀ k, k < x.2.length → ∃ m, w'.cell? ⟨b, q + k, none⟩ = some (.int .i64 m) := fun k hk => by
      have g7 := flat_get (f := zI) (sz := 1) (fun _ => rfl) x.2 k 0 hk (by decide)
      obtain ⟨u2, g8, g9⟩ := RelAt.get g6 g7
      have g10 : u2 = .int .i64 x.2[k] := g9
      subst g10
      refine ⟨x.2[k], ?_⟩
      rw [← g8]
      simp
    obtain ⟨m, hm⟩ := gm 0 hx0
    have hbI : I' b := g4 fun h => by
      have h9 := congrArg List.length h
      rw [flat_len (c := 1) (fun _ => rfl)] at h9
      have h10 : x.2.length * 1 = 0 := h9
      omega
    exact ⟨b, q, c, g1, g5, hZ b _ m hbI hm, gm⟩
  have hb0 : b0 ∈ zone w w' := by
    obtain ⟨x, hx⟩ : ∃ x, l[0]? = some x := ⟨l[0], List.getElem?_eq_getElem hl⟩
    exact hZ b0 _ x.1 hI0 (hbox 0 x hx)
  obtain ⟨j0, hj0⟩ := pl_some hb0
  have blkAt : ∀ (j b p : Nat) (u : Value), pl (zone w w') b = some j → w'.cell? ⟨b, p, none⟩ = some u → ∃ cs e, ((zone w w').map (zblk (zone w w') w'))[j]? = some (.cells cs e) ∧ cs[p]? = some (zval (zone w w') u) := fun j b p u hj hu => by
    have hzj := pl_get hj
    obtain ⟨_, _, arr, el, q1, q2⟩ := hzb j b hzj
    refine ⟨arr.toList.map (zval (zone w w')), el, by rw [List.getElem?_map, hzj]; exact congrArg some q2, ?_⟩
    simp only [World.cell?, q1] at hu
    have hu2 : arr[p]? = some u := by simpa using hu
    rw [List.getElem?_map, Array.getElem?_toList, hu2]
    rfl
  refine ⟨_, .tuple [.sl j0 o l.length, .p (.int .i64 e)], I, zone w w', (zone w w').map (zblk (zone w w') w'), rfl, ⟨j0, o, rfl, ?_⟩, hE, hI, ⟨us', rfl, ?_⟩⟩
  · intro i n hn
    rw [List.getElem?_map, Option.map_eq_some_iff] at hn
    obtain ⟨x, hx, rfl⟩ := hn
    obtain ⟨b, q, c, g1, g2, g3, g4⟩ := hcol i x hx
    obtain ⟨j, hj⟩ := pl_some g3
    obtain ⟨cs, el, q1, q2⟩ := blkAt j0 b0 _ _ hj0 g1
    refine ⟨cs, el, j, q, q1, (List.getElem?_eq_some_iff.1 q2).1, ?_, fun k hk => ?_⟩
    · rw [q2]
      unfold zval
      simp only [if_pos g2, hj]
    · obtain ⟨m, hm⟩ := g4 k hk
      obtain ⟨cs', el', r1, r2⟩ := blkAt j b _ _ hj hm
      refine ⟨⟨cs', el', r1, (List.getElem?_eq_some_iff.1 r2).1⟩, fun i' hi' hjj he => ?_⟩
      rw [List.length_map] at hi'
      obtain ⟨x', hx'⟩ : ∃ x', l[i']? = some x' := ⟨l[i'], List.getElem?_eq_getElem hi'⟩
      obtain ⟨b', q', c', g1', _⟩ := hcol i' x' hx'
      subst hjj
      have e1 := pl_get hj
      rw [pl_get hj0] at e1
      cases e1
      rw [← he, hm] at g1'
      cases g1'
  · obtain ⟨ue, ur2, hue, h9, h10⟩ := h8
    exact ⟨_, _, hua, ⟨b0, cap, pl_get hj0, rfl, k2⟩, _, _, hue, h9, h10⟩
/-- A pair of content, told as a pair. -/
theorem ACalls.tup2 {f : FuncId} {args : List V} {H : List Blk} {a b : PV} (h : ACalls P f args H fun v H' => v = .p (.tuple [a, b]) ∧ H' = []) : ACalls P f args H fun v H' => v = .tuple [.p a, .p b] ∧ H' = [] :=
  fun w I ρ us hi hus => (h w I ρ us hi hus).mono fun _ _ ⟨u, v, J, σ, H', h1, ⟨h2, h3⟩, h4, h5, h6⟩ => ⟨u, _, J, σ, H', h1, ⟨rfl, h3⟩, h4, h5, by
    subst h2
    obtain ⟨us, e, hr⟩ := h6
    exact ⟨us, e, (RelVL.pure (xs := [a, b])).2 hr⟩⟩
/-- A slice of pairs at place o of own block j0; or an empty one. -/
structure XOk (x : V) (j0 o n : Nat) : Prop where
  len : alen x = some n
  ix : ∀ i, i < n → aindex 2 i x = some (.ptr j0 (o + i * 2))
  nc : ∀ cs len, x = .p (.is cs len) → 0 < len → cs ≠ []
theorem XOk.nil (x : V) (h : x = .p .nilSlice ∨ x = .p (.is [] 0)) : XOk x 0 0 0 := by
  rcases h with rfl | rfl
  · exact ⟨rfl, fun i h => absurd h (Nat.not_lt_zero i), fun cs len h => by cases h⟩
  · exact ⟨rfl, fun i h => absurd h (Nat.not_lt_zero i), fun cs len h hl => by cases h; exact absurd hl (Nat.lt_irrefl 0)⟩
theorem XOk.own (j0 o n : Nat) : XOk (.sl j0 o n) j0 o n := ⟨rfl, fun i h => if_pos h, fun cs len h => by cases h⟩
theorem ZnOk.nil (H : List Blk) : ZnOk 0 0 [] H := fun i n h => by cases h
theorem st_zn {H : List Blk} {j p : Nat} {cs : List V} {e : TypeId} {v : V} (h : H[j]? = some (.cells cs e)) (hp : p < cs.length) : astore H j p [v] = some (H.set j (.cells (cs.set p v) e)) := by
  unfold astore
  rw [h]
  dsimp only
  rw [if_pos (show p + [v].length ≤ cs.length from hp)]
  rfl
theorem ld_zn {H : List Blk} {j p : Nat} {cs : List V} {e : TypeId} {v : V} (h : H[j]? = some (.cells cs e)) (hp : cs[p]? = some v) : aload H false 1 (.ptr j p) = some v := by
  unfold aload
  dsimp only
  unfold blkCells
  rw [h]
  exact hp
end
end Go.AF
end
