/-
  Ranges over functions, over abstract states. No condition; generic over any program.
-/
import Derived.Test.YtmcejcidbekpkaaAf11
set_option linter.unusedVariables false
set_option linter.unusedSimpArgs false
set_option linter.unnecessarySimpa false
namespace Go.AF
section
variable {P : Program} {R : Option Nat} {N κ : Nat} {Q Q' : Post} {T T' T2 T3 : Tm} {H H' H2 H3 : List Blk} {o : Oper} {ops : Array Oper} {rest : List Oper}

/-- yield, as a value. -/
def yieldV (l : Nat) : V := .p (.func (.yield l) [] [])

/-- What one round does to the own blocks; what yield hands back. -/
def BodyOk (P : Program) (l κ : Nat) (h : List Blk) (args : List V) (Qb : Bool → List Blk → Prop) : Prop :=
  ∀ (B : List Nat) w I ρ us, Inv P w I ρ h → RelVL P w I ρ args us → B <+: ρ → B.length ≤ κ →
    ∃ fn tmps asg body, (Instr.yield l us.toArray).run P w = .ok (.round l fn tmps asg body) w ∧
      RoundIn Fence.wide 0 P l fn tmps asg body w fun e w' => ∃ b I' ρ' h', e = .returned (.bool b) ∧ Qb b h' ∧ ExtW w I ρ w' I' ρ' ∧ Inv P w' I' ρ' h' ∧ B <+: ρ'

/-- A function that yields xs, one after the other, as long as it is told to go on. -/
def ASeq (P : Program) (f : FuncId) (mk : V → List V) (xs : List (List V)) : Prop :=
  ∀ (l κ n : Nat) (inv : Nat → List Blk → Prop) (fin : List Blk → Prop), κ ≤ n → (∀ k h, inv k h → h.length = n) → (∀ h, fin h → h.length = n) →
    (∀ k h x, inv k h → xs[k]? = some x → BodyOk P l κ h x fun b h' => if b = true then inv (k + 1) h' else fin h') →
    ∀ h0, inv 0 h0 → ACallsK P κ f (mk (yieldV l)) h0 fun _ h' => inv xs.length h' ∨ fin h'

def pureV : V → V
  | .p x => .p x
  | _ => .top
def pureT : Tm → Tm
  | [] => []
  | (s, v) :: r => (s, pureV v) :: pureT r
theorem lk_pureT : ∀ (T : Tm) (s : Nat), lk (pureT T) s = (lk T s).map pureV
  | [], s => rfl
  | (a, v) :: r, s => by
    simp only [pureT, lk]
    cases Nat.beq a s with
    | true => rfl
    | false => exact lk_pureT r s
theorem pureV_rel {w w' : World} {I I' : Nat → Prop} {ρ ρ' : List Nat} (h : ExtW w I ρ w' I' ρ') {v : V} {u : Value} (hv : RelV P w I ρ v u) : RelV P w' I' ρ' (pureV v) u := by
  cases v <;> first | trivial | skip
  exact Rel.mono h.imm h.immKeep _ u hv
theorem TRel.pureT {w w' : World} {I I' : Nat → Prop} {ρ ρ' : List Nat} {tmps : Array Value} (h : ExtW w I ρ w' I' ρ') (t : TRel P w I ρ N T tmps) : TRel P w' I' ρ' N (AF.pureT T) tmps :=
  ⟨t.size, fun s v hv => by
    rw [lk_pureT, Option.map_eq_some_iff] at hv
    obtain ⟨v0, h1, rfl⟩ := hv
    exact pureV_rel h (t.at_ s v0 h1)⟩

theorem Marks.extW {B : Base} {w w' : World} {I I' : Nat → Prop} {ρ ρ' : List Nat} {ds : List Deferred} (h : ExtW w I ρ w' I' ρ') (hp : B.pre <+: ρ') (m : Marks κ B w I ρ ds) : Marks κ B w' I' ρ' ds := by
  obtain ⟨hB, hκ, _, rs, h1, h2, h3⟩ := m
  refine ⟨Nat.le_trans hB h.size, hκ, hp, rs, h1, h2, fun r hr => ?_⟩
  obtain ⟨h4, h5, h6⟩ := h3 r hr
  exact ⟨h.defKeep r h4, fun h7 => h5 (h.defI r h4 h7), h6⟩

theorem roundIn_fr {n l : Nat} {f : FuncId} {tmps : Array Value} {asg body : Code} {w : World} {Rr : Ending → World → Prop} (R : Option Nat) (h : RoundIn Fence.wide n P l f tmps asg body w Rr) : RoundIn (Fr R) n P l f tmps asg body w Rr := h

/-- A call of yield. -/
theorem AList.yield (d : Nat) {l : Nat} {f : Operand} {xs : Array Operand} {ts : Array TypeId} {vs : List V} {Qb : Bool → List Blk → Prop} (ho : o.op = .call { callee := .value f, args := xs, argTypes := ts }) (hd : o.dst = some d) (hN : dstOk N (some d) = true) (hg : o.guard = none)
    (hf : ev T f = some (yieldV l)) (hxs : evs T xs.toList = some vs) (hb : BodyOk P l κ H vs Qb)
    (next : ∀ b h', Qb b h' → AList P R N κ ops rest Q ((d, .p (.bool b)) :: pureT T) h') : AList P R N κ ops (o :: rest) Q T H := by
  intro QX B w I ρ a hi ht hm hq
  refine wpListIn_plain hg fun K hK => ⟨about_wide, ?_⟩
  rw [semAt_plain _ _ _ (by simp [ho])]
  have h1 := ht.ev hf
  have h2 := ht.evs hxs
  obtain ⟨us, vs', hu, h3, h4⟩ := h1
  simp only [RelL] at h3 h4
  have hus : us = #[] := by simpa using h3
  have hvs' : vs' = #[] := by simpa using h4
  subst hus hvs'
  obtain ⟨fn, tmps, asg, body, hy, hr⟩ := hb B.pre w I ρ _ hi h2 hm.2.2.1 hm.2.1
  have e : (execOp a.eval o).run P w = .ok (.round l fn tmps asg body) w := by
    rw [← hy]
    simp [execOp, ho, resolve, hu, Deferred.ofValue, invoke, ← Array.toList_map]
  rw [e]
  refine ⟨(fun h => by cases h), RoundIn.mono (roundIn_fr _ hr) ?_⟩
  rintro e w' ⟨b, I', ρ', h', rfl, h5, h6, h7, h8⟩
  have hto := ht.pureT h6
  have hput : TRel P w' I' ρ' N (setT (pureT T) o.dst (.p (.bool b))) (a.put o.dst (.bool b)).tmps := TRel.put (by rw [hd]; exact hN) hto (by simp [RelV, Rel])
  rw [hd] at hput
  refine hK _ _ ?_
  rw [hd]
  exact next b h' h5 QX B w' I' ρ' _ h7 hput (hm.extW h6 h8).put fun e a2 w2 q => hq e a2 w2 (QC.ext h6 q)

/-! ### The statement -/
def setPs : Tm → List Tmp → List V → Tm
  | T, p :: ps, x :: xs => setPs ((p, x) :: T) ps xs
  | T, _, _ => T

theorem setPs_rel {w : World} {I : Nat → Prop} {ρ : List Nat} : ∀ (ps : List Tmp) (xs : List V) (us : List Value) (T : Tm) (tmps : Array Value), (∀ p ∈ ps, p < N) → RelVL P w I ρ xs us → TRel P w I ρ N T tmps →
    TRel P w I ρ N (setPs T ps xs) ((ps.zip us).foldl (fun t (p, v) => t.setIfInBounds p v) tmps)
  | [], xs, us, T, tmps, _, _, ht => by cases xs <;> simpa [setPs] using ht
  | p :: ps, [], us, T, tmps, _, hx, ht => by
    simp [RelVL] at hx
    subst hx
    simpa [setPs] using ht
  | p :: ps, x :: xs, us, T, tmps, hp, hx, ht => by
    obtain ⟨u, us', rfl, h1, h2⟩ := hx
    simp only [setPs, List.zip_cons_cons, List.foldl_cons]
    refine setPs_rel ps xs us' _ _ (fun q hq => hp q (by simp [hq])) h2 ?_
    have := TRel.put (a := { tmps := tmps, defers := [] }) (dst := some p) (v := x) (u := u) (by simpa [dstOk, Nat.blt, Nat.lt_iff_add_one_le] using hp p (by simp)) ht h1
    simpa [setT, Act.put] using this

theorem Inv.kill {w : World} {I : Nat → Prop} {ρ : List Nat} (hi : Inv P w I ρ H) (i : Nat) : Inv P w I ρ (H.set i .dead) := by
  have hat : ∀ (j : Nat) (x : Blk), (H.set i .dead)[j]? = some x → x.live = true → H[j]? = some x := fun j x h hl => by
    rw [List.getElem?_set] at h
    split at h
    · split at h
      · cases h; cases hl
      · cases h
    · exact h
  refine ⟨by simp [hi.len], fun j b blk h1 h2 h3 => hi.bnd j b blk h1 (hat j blk h2 h3) h3, hi.ib, fun j b blk h1 h2 h3 => hi.live j b blk h1 (hat j blk h2 h3) h3, fun j k b x y h1 h2 h3 h4 h5 h6 => hi.dist j k b x y h1 h2 (hat j x h3 h5) (hat k y h4 h6) h5 h6, fun j b blk h1 h2 => ?_⟩
  cases hl : blk.live with
  | false => exact RelB.dead_of hl
  | true => exact hi.rel j b blk h1 (hat j blk h2 hl)

/-- The record at its place. -/
theorem loop_at {w : World} {I : Nat → Prop} {ρ : List Nat} {n : Nat} {r : LRec} {st : LoopState} {pe : Option Code} (hi : Inv P w I ρ H) (hH : H[n]? = some (.loop r st pe)) :
    ρ[n]? = some r.l ∧ (∃ fn d, w.heap[r.l]? = some (.loop { state := st, pending := pe, fn, tmps := r.tmps, params := r.ps, assign := r.asg, body := r.body, defers := d })) ∧ ∀ s v, lk r.T s = some v → RelV P w I ρ v (r.tmps.getD s undef) := by
  have hlt : n < ρ.length := by rw [hi.len]; exact (List.getElem?_eq_some_iff.1 hH).1
  have hρ : ρ[n]? = some ρ[n] := List.getElem?_eq_getElem hlt
  obtain ⟨h1, h2, h3⟩ := hi.rel n _ _ hρ hH
  rw [h1] at hρ h2
  exact ⟨hρ, h2, h3⟩

/-- The record turns. -/
theorem loop_turn {w : World} {I : Nat → Prop} {ρ : List Nat} {n : Nat} {r : LRec} {st st' : LoopState} {pe pe' : Option Code} {fn : FuncId} {d : Nat} (hi : Inv P w I ρ H) (hH : H[n]? = some (.loop r st pe))
    (hw : w.heap[r.l]? = some (.loop { state := st, pending := pe, fn, tmps := r.tmps, params := r.ps, assign := r.asg, body := r.body, defers := d })) :
    ∀ w', w' = w.putObj r.l (.loop { state := st', pending := pe', fn, tmps := r.tmps, params := r.ps, assign := r.asg, body := r.body, defers := d }) →
      Ext w I ρ w' I ρ ∧ Inv P w' I ρ (H.set n (.loop r st' pe')) := by
  intro w' hw'
  obtain ⟨hρ, _, hT⟩ := loop_at hi hH
  have hlt : r.l < w.heap.size := (Array.getElem?_eq_some_iff.1 hw).1
  have hsame : w'.heap[r.l]? = some (.loop { state := st', pending := pe', fn, tmps := r.tmps, params := r.ps, assign := r.asg, body := r.body, defers := d }) := by rw [hw']; exact World.putObj_heap_same hlt
  have hother : ∀ k, k ≠ r.l → w'.heap[k]? = w.heap[k]? := fun k hk => by rw [hw']; exact World.putObj_heap_other hk
  have hsh : ∀ s, w.shape? r.l = some s → w'.shape? r.l = some s := fun s hs => by simp [World.shape?, hw] at hs
  have hE : Ext w I ρ w' I ρ := Ext.write hi hρ hH rfl (by rw [hw']; rfl) (by rw [hw']; rfl) (by rw [hw']; rfl) (by rw [hw']; simp) hother hsh
  refine ⟨hE, Inv.write hi hρ hH rfl hE (by rw [hw']; simp) hother ⟨rfl, ⟨fn, d, hsame⟩, fun s v hv => (hT s v hv).ext hE⟩⟩

/-- The range's own call. -/
theorem run_rangeCall {w : World} {I : Nat → Prop} {ρ : List Nat} {a : Act} {g : Operand} {l : Nat} {fv : V} {f : FuncId} {all : List V} (hT : TRel P w I ρ N T a.tmps) (hg : ev T g = some fv) (hc : callee [yieldV l] fv = some (f, all)) (hf : realFn P f = true) :
    ∃ d us, RelVL P w I ρ all us ∧ (resolve a.eval (rangeCall g l) 0).run P w = .ok d w ∧ (invoke d.target d.args).run P w = .ok (.enter f us.toArray) w := by
  have h1 := hT.ev hg
  have hy : RelVL P w I ρ [yieldV l] [Value.func (.yield l) #[] #[]] := ⟨_, [], rfl, ⟨#[], #[], rfl, by simp [RelL], by simp [RelL]⟩, by simp [RelVL]⟩
  unfold callee at hc
  split at hc
  · rename_i f' fi ca
    simp at hc
    obtain ⟨rfl, rfl⟩ := hc
    obtain ⟨us, vs', hu, h3, h4⟩ := h1
    refine ⟨{ target := .fn (.func f') vs', args := us ++ #[.func (.yield l) #[] #[]] }, us.toList ++ [Value.func (.yield l) #[] #[]] ++ vs'.toList, ?_, ?_, ?_⟩
    · have := RelVL.append (RelVL.append (RelVL.pure (P := P) (ρ := ρ).2 h3) hy) (RelVL.pure (P := P) (ρ := ρ).2 h4)
      simpa using this
    · have hu2 : a.eval (.const (.func (.yield l) #[] #[])) = .func (.yield l) #[] #[] := rfl
      simp [resolve, rangeCall, hu, hu2, Deferred.ofValue]
    · simp [invoke, run_callFunc hf]
  · rename_i f' fi ca
    simp at hc
    obtain ⟨rfl, rfl⟩ := hc
    obtain ⟨us, vs', hu, h3, h4⟩ := h1
    refine ⟨{ target := .fn (.func f') vs', args := us ++ #[.func (.yield l) #[] #[]] }, us.toList ++ [Value.func (.yield l) #[] #[]] ++ vs'.toList, ?_, ?_, ?_⟩
    · have := RelVL.append (RelVL.append h3 hy) h4
      simpa using this
    · have hu2 : a.eval (.const (.func (.yield l) #[] #[])) = .func (.yield l) #[] #[] := rfl
      simp [resolve, rangeCall, hu, hu2, Deferred.ofValue]
    · simp [invoke, run_callFunc hf]
  · cases hc

/-- How a round may end. -/
def RP (P : Program) (κ N : Nat) (r : LRec) (k : Nat) (J : Nat → List Blk → Prop) (Jx : Code → List Blk → Prop) : Post
  | .normal, T, H => ∃ h', J (k + 1) h' ∧ To P κ N T H [] (h' ++ [.loop r .busy none])
  | .ret, T, H => ∃ h', Jx .ret h' ∧ To P κ N T H [] (h' ++ [.loop r .busy none])
  | .exit id, T, H => ∃ h', Jx (.exit id) h' ∧ To P κ N T H [] (h' ++ [.loop r .busy none])
  | .panic _, _, _ => False

/-- The round's two parts: the assignment to the loop's variables, and its body. -/
def Round (P : Program) (N κ : Nat) (r : LRec) (k n : Nat) (J : Nat → List Blk → Prop) (Jx : Code → List Blk → Prop) (T : Tm) (H : List Blk) : Prop :=
  AWp P (some r.l) N κ r.asg (fun x T1 H1 => x = .normal ∧ H1[n]? = some (.loop r .ready none) ∧ AWp P (some r.l) N κ r.body (RP P κ N r k J Jx) T1 (H1.set n (.loop r .busy none))) T H

theorem set_last {α : Type} (l : List α) (x y : α) : (l ++ [x]).set l.length y = l ++ [y] := by simp

theorem Round.ok {r : LRec} {k n : Nat} {J : Nat → List Blk → Prop} {Jx : Code → List Blk → Prop} {h : List Blk} {xs : List V} (hn : h.length = n) (hJ : ∀ h, J (k + 1) h → h.length = n) (hJx : ∀ c h, Jx c h → h.length = n) (hps : xs.length = r.ps.size) (hlt : ∀ p ∈ r.ps.toList, p < N) (hN : r.tmps.size = N)
    (hr : Round P N κ r k n J Jx (setPs r.T r.ps.toList xs) (h ++ [.loop r .ready none])) :
    BodyOk P r.l κ (h ++ [.loop r .ready none]) xs fun b h' => if b = true then ∃ h0, J (k + 1) h0 ∧ h' = h0 ++ [.loop r .ready none] else ∃ h0 c, Jx c h0 ∧ h' = h0 ++ [.loop r .done (some c)] := by
  intro B w I ρ us hi hus hB hBκ
  have hat : (h ++ [Blk.loop r .ready none])[n]? = some (.loop r .ready none) := by subst hn; simp
  obtain ⟨hρ, ⟨fn, d, hl⟩, hT⟩ := loop_at hi hat
  have hlen := RelVL.length hus
  refine ⟨fn, _, r.asg, r.body, run_yield hl (by simp [hlen, hps]), ?_⟩
  refine roundIn_of_wpIn trivial ?_
  have ht0 : TRel P w I ρ N (setPs r.T r.ps.toList xs) ((r.ps.zip us.toArray).foldl (fun t (p, v) => t.setIfInBounds p v) r.tmps) := by
    have := setPs_rel r.ps.toList xs us r.T r.tmps hlt hus ⟨hN, hT⟩
    rw [← Array.foldl_toList]
    simpa using this
  have hstart := hr ⟨w.heap.size, B⟩ w I ρ { tmps := (r.ps.zip us.toArray).foldl (fun t (p, v) => t.setIfInBounds p v) r.tmps, defers := [] } hi ht0 ⟨Nat.le_refl _, hBκ, hB, [], rfl, List.nodup_nil, fun _ h => by cases h⟩
  refine wpIn_mono hstart ?_
  rintro e a1 w1 ⟨z, I1, ρ1, T1, H1, h1, ⟨rfl, h2, h3⟩, h4, h5, h6, h7⟩
  cases e <;> first | exact h1.elim | skip
  obtain ⟨hρ1, ⟨fn1, d1, hl1⟩, _⟩ := loop_at h5 h2
  refine ⟨_, run_beginRound hl1 rfl, ?_⟩
  obtain ⟨hE1, hi1⟩ := loop_turn (st' := .busy) (pe' := none) h5 h2 hl1 _ rfl
  refine wpIn_mono (h3 ⟨w.heap.size, B⟩ _ I1 ρ1 a1 hi1 (h6.ext hE1) (h7.ext hE1)) ?_
  rintro e a2 w2 ⟨z, I2, ρ2, T2, H2, k1, k2, k3, k4, k5, k6⟩
  have key : ∀ h', To P κ N T2 H2 [] (h' ++ [.loop r .busy none]) → h'.length = n → ∀ jump : Option Code, ∃ w3, (Instr.endRound r.l jump).run P w2 = .ok (.bool jump.isNone) w3 ∧
      ∃ I' ρ', ExtW w I ρ w3 I' ρ' ∧ Inv P w3 I' ρ' (h' ++ [.loop r (if jump.isNone then .ready else .done) jump]) ∧ B <+: ρ' := by
    intro h' hto hh' jump
    obtain ⟨I3, ρ3, m1, m2, m3, m4⟩ := hto w2 I2 ρ2 a2.tmps k4 k5
    have hat3 : (h' ++ [Blk.loop r .busy none])[n]? = some (.loop r .busy none) := by subst hh'; simp
    obtain ⟨_, ⟨fn3, d3, hl3⟩, _⟩ := loop_at m2 hat3
    obtain ⟨hE3, hi3⟩ := loop_turn (st' := if jump.isNone then .ready else .done) (pe' := jump) m2 hat3 hl3 _ rfl
    refine ⟨_, run_endRound jump hl3, I3, ρ3, ((h4.trans hE1.w).trans k3).trans (m1.trans hE3.w), ?_, m4 B k6.2.2.1 hBκ⟩
    subst hh'
    rw [set_last] at hi3
    exact hi3
  cases z <;> cases e <;> first | exact k1.elim | exact k2.elim | skip
  · obtain ⟨h', k7, k8⟩ := k2
    obtain ⟨w3, e1, I', ρ', e2, e3, e4⟩ := key h' k8 (hJ _ k7) none
    exact ⟨_, w3, e1, true, I', ρ', _, rfl, by show if true = true then _ else _; rw [if_pos rfl]; exact ⟨h', k7, rfl⟩, e2, e3, e4⟩
  · obtain ⟨h', k7, k8⟩ := k2
    obtain ⟨w3, e1, I', ρ', e2, e3, e4⟩ := key h' k8 (hJx _ _ k7) (some .ret)
    exact ⟨_, w3, e1, false, I', ρ', _, rfl, by show if false = true then _ else _; rw [if_neg (by simp)]; exact ⟨h', _, k7, rfl⟩, e2, e3, e4⟩
  · rename_i i j
    obtain rfl : i = j := k1
    obtain ⟨h', k7, k8⟩ := k2
    obtain ⟨w3, e1, I', ρ', e2, e3, e4⟩ := key h' k8 (hJx _ _ k7) (some (.exit i))
    exact ⟨_, w3, e1, false, I', ρ', _, rfl, by show if false = true then _ else _; rw [if_neg (by simp)]; exact ⟨h', _, k7, rfl⟩, e2, e3, e4⟩

theorem run_enterLoop_in {w : World} {l0 : Nat} {r0 : Loop} (h : w.heap[l0]? = some (.loop r0)) (fn : FuncId) (tmps : Array Value) (ps : Array Tmp) (asg body : Code) :
    (Instr.enterLoop fn tmps ps asg body (some l0)).run P w = .ok (w.heap.size, []) (w.alloc (.loop { state := .ready, pending := none, fn, tmps, params := ps, assign := asg, body, defers := r0.defers })) := by
  unfold Instr.enterLoop
  simp only [Sem.run_bind, run_getLoop h, run_newObj_alloc, Result.andThen, Sem.run_pure]

/-- A range over a function. -/
theorem AWp.rangeFunc {g : Operand} {ps : Array Tmp} {asg body : Code} {fv : V} {f : FuncId} {mk : V → List V} {xs : List (List V)} (κ2 : Nat) (hg : ev T g = some fv) (hc : ∀ y, callee [y] fv = some (f, mk y)) (hf : realFn P f = true) (hseq : ASeq P f mk xs)
    (hκ : κ ≤ κ2) (hκn : κ2 ≤ H.length) (hR : ∀ l0, R = some l0 → ∃ (i : Nat) (r0 : LRec) (st : LoopState) (pe : Option Code), r0.l = l0 ∧ H[i]? = some (.loop r0 st pe)) (hps : ∀ x ∈ xs, x.length = ps.size) (hlt : ps.toList.all (fun p => Nat.blt p N) = true)
    (J : Nat → List Blk → Prop) (Jx : Code → List Blk → Prop) (hJ : ∀ k h, J k h → h.length = H.length) (hJx : ∀ c h, Jx c h → h.length = H.length) (h0 : J 0 H)
    (round : ∀ l tmps k h x, J k h → xs[k]? = some x → Round P N κ2 ⟨l, tmps, T, ps, asg, body⟩ k H.length J Jx (setPs T ps.toList x) (h ++ [.loop ⟨l, tmps, T, ps, asg, body⟩ .ready none]))
    (done : ∀ h, J xs.length h → Q .normal T (h ++ [.dead])) (stop : ∀ c h, Jx c h → AWp P R N κ c Q T (h ++ [.dead])) : AWp P R N κ (.rangeFunc g ps asg body) Q T H := by
  intro B w I ρ a hi ht hm
  refine wpIn_rangeFunc ?_
  intro fn _
  -- the record
  have entry : ∃ (l : Nat) (mark : List Deferred) (w1 : World), (Instr.enterLoop fn a.tmps ps asg body R).run P w = .ok (l, mark) w1 ∧ Ext w I ρ w1 I (ρ ++ [l]) ∧
      Inv P w1 I (ρ ++ [l]) (H ++ [.loop ⟨l, a.tmps, T, ps, asg, body⟩ .ready none]) ∧ Marks κ B w1 I (ρ ++ [l]) (mark ++ a.defers) := by
    cases R with
    | none =>
      have hi1 := Inv.allocJunk hi (.deferred (some []))
      have he1 := Ext.allocJunk hi (.deferred (some []))
      let ob : Obj := .loop { state := .ready, pending := none, fn, tmps := a.tmps, params := ps, assign := asg, body, defers := w.heap.size }
      have he2 : Ext (w.alloc (.deferred (some []))) I ρ _ I _ := Ext.allocOwn hi1 ob
      have hE := he1.trans he2
      have hsz : (w.alloc (.deferred (some []))).heap.size = w.heap.size + 1 := by simp
      rw [hsz] at hE
      refine ⟨w.heap.size + 1, _, _, run_enterLoop_outer fn a.tmps ps asg body, hE, ?_, ?_⟩
      · have hx : RelB P ((w.alloc (.deferred (some []))).alloc ob) I (ρ ++ [w.heap.size + 1]) (.loop ⟨w.heap.size + 1, a.tmps, T, ps, asg, body⟩ .ready none) (w.heap.size + 1) := by
          refine ⟨rfl, ⟨fn, w.heap.size, ?_⟩, fun s v hv => (ht.at_ s v hv).ext hE⟩
          have := heap_alloc_new (w.alloc (.deferred (some []))) ob
          rw [hsz] at this
          exact this
        have := Inv.allocOwn hi1 ob (blk := .loop ⟨w.heap.size + 1, a.tmps, T, ps, asg, body⟩ .ready none) (by rw [hsz]; exact hx)
        rwa [hsz] at this
      · obtain ⟨h1, h2, h3, rs, h4, h5, h6⟩ := hm.ext hE
        refine ⟨h1, h2, h3, w.heap.size :: rs, by simp [h4], List.nodup_cons.2 ⟨fun hmem => ?_, h5⟩, fun r hr => ?_⟩
        · obtain ⟨rs', g4, g5, g6⟩ := hm.2.2.2
          have e : rs' = rs := by
            have := g4.symm.trans h4
            exact (List.map_inj_right (fun x y hxy => by simpa using hxy)).1 this
          subst e
          have := (Array.getElem?_eq_some_iff.1 (g6 _ hmem).1).1
          omega
        · rcases List.mem_cons.1 hr with rfl | hr
          · refine ⟨?_, fun hI => by have := hi.ib _ hI; omega, hm.1⟩
            rw [heap_alloc_old _ _ (by simp)]
            exact heap_alloc_new w _
          · exact h6 r hr
    | some l0 =>
      obtain ⟨i, r0, st, pe, hl0, hH0⟩ := hR l0 rfl
      obtain ⟨_, ⟨fn0, d0, hw0⟩, _⟩ := loop_at hi hH0
      rw [hl0] at hw0
      let ob : Obj := .loop { state := .ready, pending := none, fn, tmps := a.tmps, params := ps, assign := asg, body, defers := d0 }
      have hE : Ext w I ρ (w.alloc ob) I (ρ ++ [w.heap.size]) := Ext.allocOwn hi ob
      refine ⟨w.heap.size, [], _, run_enterLoop_in hw0 fn a.tmps ps asg body, hE, Inv.allocOwn hi ob ⟨rfl, ⟨fn, d0, heap_alloc_new w ob⟩, fun s v hv => (ht.at_ s v hv).ext hE⟩, hm.ext hE⟩
  obtain ⟨l, mark, w1, hen, hE, hi1, hm1⟩ := entry
  obtain ⟨d, us, hus, hres, hinv⟩ := run_rangeCall (ht.ext hE) hg (hc (yieldV l)) hf
  refine ⟨l, mark, w1, d, w1, f, us.toArray, w1, hen, hres, (fun _ _ => trivial), hinv, (fun h => by cases h), ?_⟩
  have hlen1 : ∀ k h, (∃ h0, J k h0 ∧ h = h0 ++ [Blk.loop ⟨l, a.tmps, T, ps, asg, body⟩ .ready none]) → h.length = H.length + 1 := by
    rintro k h ⟨h0, h1, rfl⟩
    simp [hJ k h0 h1]
  have hcall := hseq l κ2 (H.length + 1) (fun k h => ∃ h0, J k h0 ∧ h = h0 ++ [Blk.loop ⟨l, a.tmps, T, ps, asg, body⟩ .ready none]) (fun h => ∃ h0 c, Jx c h0 ∧ h = h0 ++ [Blk.loop ⟨l, a.tmps, T, ps, asg, body⟩ .done (some c)])
    (by omega) hlen1 (by rintro h ⟨h0, c, h1, rfl⟩; simp [hJx c h0 h1]) (by
      rintro k h x ⟨h0, h1, rfl⟩ hx
      have := Round.ok (r := ⟨l, a.tmps, T, ps, asg, body⟩) (hJ k h0 h1) (hJ (k + 1)) hJx (hps x (List.mem_of_getElem? hx)) (fun p hp => by
        have := (List.all_eq_true.1 hlt) p hp
        simpa [Nat.blt, Nat.lt_iff_add_one_le] using this) ht.size (round l a.tmps k h0 x h1 hx)
      exact this) _ ⟨H, h0, rfl⟩ B.pre w1 I (ρ ++ [l]) us hi1 hus (hm1.2.2.1) (Nat.le_trans hm1.2.1 hκ)
  refine CallsIn.mono (callsIn_fr R hcall) ?_
  rintro e w3 ⟨u, v, I3, ρ3, H3, rfl, hfin, h1, h2, h3, h4⟩
  have hback : ∀ (h' : List Blk) (st : LoopState) (pe : Option Code), h'.length = H.length → st ≠ .busy → H3 = h' ++ [.loop ⟨l, a.tmps, T, ps, asg, body⟩ st pe] →
      ∃ w4, (Instr.endLoop l).run P w3 = .ok pe w4 ∧ ExtW w I ρ w4 I3 ρ3 ∧ Inv P w4 I3 ρ3 (h' ++ [.dead]) ∧ TRel P w4 I3 ρ3 N T a.tmps ∧ Marks κ B w4 I3 ρ3 (mark ++ a.defers) := by
    rintro h' st pe hl' hst rfl
    have hat : (h' ++ [Blk.loop ⟨l, a.tmps, T, ps, asg, body⟩ st pe])[H.length]? = some (.loop ⟨l, a.tmps, T, ps, asg, body⟩ st pe) := by rw [← hl']; simp
    obtain ⟨_, ⟨fn3, d3, hl3⟩, hT3⟩ := loop_at h2 hat
    obtain ⟨hE3, hi3⟩ := loop_turn (st' := .exhausted) (pe' := pe) h2 hat hl3 _ rfl
    refine ⟨_, run_endLoop hl3 hst, (hE.w.trans h1).trans hE3.w, ?_, ⟨ht.size, fun s v hv => (hT3 s v hv).ext hE3⟩, (hm1.extW h1 h4).ext hE3⟩
    have := hi3.kill H.length
    rw [← hl', set_last, set_last] at this
    exact this
  rcases hfin with ⟨h', hj, rfl⟩ | ⟨h', c, hj, rfl⟩
  · obtain ⟨w4, e1, e2, e3, e4, e5⟩ := hback h' .ready none (hJ _ _ hj) (by simp) rfl
    exact ⟨none, w4, e1, .normal, I3, ρ3, T, _, trivial, done h' hj, e2, e3, e4, e5⟩
  · obtain ⟨w4, e1, e2, e3, e4, e5⟩ := hback h' .done (some c) (hJx _ _ hj) (by simp) rfl
    exact ⟨some c, w4, e1, wpIn_mono (stop c h' hj B w4 I3 ρ3 { a with defers := mark ++ a.defers } e3 e4 e5) fun _ _ _ q => QC.ext e2 q⟩
end
end Go.AF
