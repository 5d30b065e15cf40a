/-
  Own blocks that change places, loops whose rounds lay blocks, calls that keep some places. No condition; generic over any program.
-/
import Derived.Test.YtmcejcidbekpkaaAf10
set_option linter.unusedVariables false
set_option linter.unusedSimpArgs false
set_option linter.unnecessarySimpa false
namespace Go.AF

mutual
def renV (σ : Nat → Option Nat) : V → V
  | .p x => .p x
  | .ptr i off => match σ i with
    | some j => .ptr j off
    | none => .top
  | .row i len => match σ i with
    | some j => .row j len
    | none => .top
  | .sl i off len => match σ i with
    | some j => .sl j off len
    | none => .top
  | .map i => match σ i with
    | some j => .map j
    | none => .top
  | .func fn fi ca => .func fn (renL σ fi) (renL σ ca)
  | .iface t v => .iface t (renV σ v)
  | .agg cs => .agg (renL σ cs)
  | .tuple cs => .tuple (renL σ cs)
  | .opt g v => .opt g (renV σ v)
  | .top => .top
def renL (σ : Nat → Option Nat) : List V → List V
  | [] => []
  | v :: vs => renV σ v :: renL σ vs
end
def renT (σ : Nat → Option Nat) : Tm → Tm
  | [] => []
  | (s, v) :: r => (s, renV σ v) :: renT σ r
def renB (σ : Nat → Option Nat) : Blk → Blk
  | .cells cs e => .cells (renL σ cs) e
  | .row cs e => .row (renL σ cs) e
  | .map ks vs => .map (renL σ ks) (renL σ vs)
  | .strIter s p => .strIter s p
  | .mapIter ks vs last => .mapIter ks vs last
  | .loop r st pe => .loop { r with T := renT σ r.T } st pe
  | .dead => .dead

section
variable {P : Program} {w : World} {I : Nat → Prop} {ρ ρ2 : List Nat} {σ : Nat → Option Nat}
mutual
theorem renV_rel (hσ : ∀ i j b : Nat, σ i = some j → ρ[i]? = some b → ρ2[j]? = some b) : ∀ (v : V) (u : Value), RelV P w I ρ v u → RelV P w I ρ2 (renV σ v) u
  | .p x, u, h => h
  | .ptr i off, u, h => by
    simp only [renV]
    split
    · rename_i j hj
      obtain ⟨b, h1, h2⟩ := h
      exact ⟨b, hσ i j b hj h1, h2⟩
    · trivial
  | .row i len, u, h => by
    simp only [renV]
    split
    · rename_i j hj
      obtain ⟨b, e, cap, h1, h2⟩ := h
      exact ⟨b, e, cap, hσ i j b hj h1, h2⟩
    · trivial
  | .sl i off len, u, h => by
    simp only [renV]
    split
    · rename_i j hj
      obtain ⟨b, cap, h1, h2⟩ := h
      exact ⟨b, cap, hσ i j b hj h1, h2⟩
    · trivial
  | .map i, u, h => by
    simp only [renV]
    split
    · rename_i j hj
      obtain ⟨b, h1, h2⟩ := h
      exact ⟨b, hσ i j b hj h1, h2⟩
    · trivial
  | .func fn fi ca, u, h => by
    obtain ⟨us, vs, hu, h1, h2⟩ := h
    exact ⟨us, vs, hu, renL_rel hσ fi _ h1, renL_rel hσ ca _ h2⟩
  | .iface t v, u, h => by
    obtain ⟨x, hu, h1⟩ := h
    exact ⟨x, hu, renV_rel hσ v x h1⟩
  | .agg cs, u, h => by
    obtain ⟨us, hu, h1⟩ := h
    exact ⟨us, hu, renL_rel hσ cs _ h1⟩
  | .tuple cs, u, h => by
    obtain ⟨us, hu, h1⟩ := h
    exact ⟨us, hu, renL_rel hσ cs _ h1⟩
  | .opt g v, u, h => ⟨fun hg => renV_rel hσ v u (h.1 hg), h.2⟩
  | .top, u, h => trivial
theorem renL_rel (hσ : ∀ i j b : Nat, σ i = some j → ρ[i]? = some b → ρ2[j]? = some b) : ∀ (vs : List V) (us : List Value), RelVL P w I ρ vs us → RelVL P w I ρ2 (renL σ vs) us
  | [], us, h => h
  | v :: vs, us, h => by
    obtain ⟨u, us', hu, h1, h2⟩ := h
    exact ⟨u, us', hu, renV_rel hσ v u h1, renL_rel hσ vs us' h2⟩
end
theorem renL_length (σ : Nat → Option Nat) : ∀ vs : List V, (renL σ vs).length = vs.length
  | [] => rfl
  | _ :: vs => by simp [renL, renL_length σ vs]
theorem lk_renT (σ : Nat → Option Nat) : ∀ (T : Tm) (s : Nat), lk (renT σ T) s = (lk T s).map (renV σ)
  | [], s => rfl
  | (a, v) :: r, s => by
    simp only [renT, lk]
    cases Nat.beq a s with
    | true => rfl
    | false => exact lk_renT σ r s
theorem renB_rel (hσ : ∀ i j b : Nat, σ i = some j → ρ[i]? = some b → ρ2[j]? = some b) {x : Blk} {b : Nat} (h : RelB P w I ρ x b) : RelB P w I ρ2 (renB σ x) b := by
  cases x with
  | cells cs e =>
    obtain ⟨arr, h1, h2⟩ := h
    exact ⟨arr, h1, renL_rel hσ cs _ h2⟩
  | row cs e =>
    obtain ⟨arr, h1, h2, h3⟩ := h
    exact ⟨arr, h1, by rw [renL_length]; exact h2, by rw [renL_length]; exact renL_rel hσ cs _ h3⟩
  | map ks vs =>
    obtain ⟨es, clock, h1, h2, h3, h4⟩ := h
    exact ⟨es, clock, h1, renL_rel hσ ks _ h2, renL_rel hσ vs _ h3, h4⟩
  | strIter s pos => exact h
  | mapIter ks vs last => exact h
  | loop r st pe =>
    obtain ⟨h0, h1, h3⟩ := h
    refine ⟨h0, h1, fun s v hv => ?_⟩
    rw [show ({ r with T := renT σ r.T } : LRec).T = renT σ r.T from rfl, lk_renT, Option.map_eq_some_iff] at hv
    obtain ⟨v0, h4, rfl⟩ := hv
    exact renV_rel hσ v0 _ (h3 s v0 h4)
  | dead => trivial
theorem renB_live {x : Blk} : (renB σ x).live = x.live := by cases x <;> rfl
theorem TRel.ren {N : Nat} {T : Tm} {tmps : Array Value} (hσ : ∀ i j b : Nat, σ i = some j → ρ[i]? = some b → ρ2[j]? = some b) (h : TRel P w I ρ N T tmps) : TRel P w I ρ2 N (renT σ T) tmps :=
  ⟨h.size, fun s v hv => by
    rw [lk_renT, Option.map_eq_some_iff] at hv
    obtain ⟨v0, h4, rfl⟩ := hv
    exact renV_rel hσ v0 _ (h.at_ s v0 h4)⟩
end

/-- From one abstract state to another that says no more, nothing being done. -/
def To (P : Program) (κ N : Nat) (T : Tm) (H : List Blk) (T2 : Tm) (H2 : List Blk) : Prop :=
  ∀ w I ρ tmps, Inv P w I ρ H → TRel P w I ρ N T tmps → ∃ I' ρ', ExtW w I ρ w I' ρ' ∧ Inv P w I' ρ' H2 ∧ TRel P w I' ρ' N T2 tmps ∧ ∀ L : List Nat, L <+: ρ → L.length ≤ κ → L <+: ρ'

section
variable {P : Program} {R : Option Nat} {N κ : Nat} {Q Q' : Post} {T T' T2 T3 : Tm} {H H' H2 H3 : List Blk} {o : Oper} {ops : Array Oper} {rest : List Oper}

theorem To.refl : To P κ N T H T H := fun w I ρ tmps hi ht => ⟨I, ρ, ExtW.refl _ _ _, hi, ht, fun _ h _ => h⟩
theorem To.sub (hs : Sub T2 T) : To P κ N T H T2 H := fun w I ρ tmps hi ht => ⟨I, ρ, ExtW.refl _ _ _, hi, ht.sub hs, fun _ h _ => h⟩
theorem To.trans (h : To P κ N T H T2 H2) (k : To P κ N T2 H2 T3 H3) : To P κ N T H T3 H3 := fun w I ρ tmps hi ht => by
  obtain ⟨I', ρ', h1, h2, h3, h4⟩ := h w I ρ tmps hi ht
  obtain ⟨I'', ρ'', k1, k2, k3, k4⟩ := k w I' ρ' tmps h2 h3
  exact ⟨I'', ρ'', h1.trans k1, k2, k3, fun L hL hl => k4 L (h4 L hL hl) hl⟩
theorem To.freeze (i : Nat) {xs : List PV} {vs : List V} (hc : blkCells H[i]? = some vs) (hp : allP vs = some xs) : To P κ N T H (frzT i xs T) (H.set i .dead) := fun w I ρ tmps hi ht => by
  rw [allP_some hp] at hc
  obtain ⟨I', h1, h2, h3⟩ := frz_step hi hc ht
  exact ⟨I', ρ, h1.w, h2, h3, fun _ h _ => h⟩

theorem Marks.to {B : Base} {w : World} {I I' : Nat → Prop} {ρ ρ' : List Nat} {ds : List Deferred} (h : ExtW w I ρ w I' ρ') (hp : ∀ L : List Nat, L <+: ρ → L.length ≤ κ → L <+: ρ') (m : Marks κ B w I ρ ds) : Marks κ B w I' ρ' ds := by
  obtain ⟨hB, hκ, hpre, rs, h1, h2, h3⟩ := m
  refine ⟨hB, hκ, hp _ hpre hκ, rs, h1, h2, fun r hr => ?_⟩
  obtain ⟨h4, h5, h6⟩ := h3 r hr
  exact ⟨h4, fun h7 => h5 (h.defI r h4 h7), h6⟩

theorem AWp.to {c : Code} (hto : To P κ N T H T2 H2) (h : AWp P R N κ c Q T2 H2) : AWp P R N κ c Q T H := by
  intro B w I ρ a hi ht hm
  obtain ⟨I', ρ', h1, h2, h3, h4⟩ := hto w I ρ a.tmps hi ht
  exact wpIn_mono (h B w I' ρ' a h2 h3 (hm.to h1 h4)) fun _ _ _ q => QC.ext h1 q
theorem AList.to {l : List Oper} (hto : To P κ N T H T2 H2) (h : AList P R N κ ops l Q T2 H2) : AList P R N κ ops l Q T H := by
  intro QX B w I ρ a hi ht hm hq
  obtain ⟨I', ρ', h1, h2, h3, h4⟩ := hto w I ρ a.tmps hi ht
  exact h QX B w I' ρ' a h2 h3 (hm.to h1 h4) fun e a2 w2 q => hq e a2 w2 (QC.ext h1 q)

/-- A list of places to keep, in their new order. -/
def pl (ks : List Nat) (i : Nat) : Option Nat := ks.idxOf? i
def keepOk (κ n : Nat) (ks : List Nat) : Bool := (ks.take κ == List.range κ) && ks.all (fun i => Nat.blt i n) && decide ks.Nodup

theorem pl_get {ks : List Nat} {i j : Nat} (h : pl ks i = some j) : ks[j]? = some i := by
  unfold pl List.idxOf? at h
  rw [List.findIdx?_eq_some_iff_getElem] at h
  obtain ⟨hj, h1, _⟩ := h
  simp at h1
  simp [hj, h1]

theorem To.keep (ks : List Nat) (hk : keepOk κ H.length ks = true) : To P κ N T H (renT (pl ks) T) (ks.map fun i => renB (pl ks) (H.getD i .dead)) := by
  intro w I ρ tmps hi ht
  simp only [keepOk, Bool.and_eq_true, beq_iff_eq, List.all_eq_true, decide_eq_true_eq] at hk
  obtain ⟨⟨hk1, hk2⟩, hk3⟩ := hk
  have hlt : ∀ i ∈ ks, i < H.length := fun i h => by have := hk2 i h; simpa [Nat.blt, Nat.lt_iff_add_one_le] using this
  have hρ2 : ∀ j i : Nat, ks[j]? = some i → (ks.map fun i => ρ.getD i 0)[j]? = ρ[i]? := fun j i h => by
    have h1 : i < ρ.length := by rw [hi.len]; exact hlt i (List.mem_of_getElem? h)
    simp [h, h1]
  have hσ : ∀ i j b : Nat, pl ks i = some j → ρ[i]? = some b → (ks.map fun i => ρ.getD i 0)[j]? = some b := fun i j b h hb => by rw [hρ2 j i (pl_get h)]; exact hb
  have hat : ∀ (j b : Nat) (blk : Blk), (ks.map fun i => ρ.getD i 0)[j]? = some b → (ks.map fun i => renB (pl ks) (H.getD i .dead))[j]? = some blk → ∃ i x, ks[j]? = some i ∧ ρ[i]? = some b ∧ H[i]? = some x ∧ blk = renB (pl ks) x := by
    intro j b blk h1 h2
    rw [List.getElem?_map, Option.map_eq_some_iff] at h2
    obtain ⟨i, h3, rfl⟩ := h2
    have h4 := hlt i (List.mem_of_getElem? h3)
    rw [hρ2 j i h3] at h1
    exact ⟨i, H[i], h3, h1, by simp [h4], by simp [h4]⟩
  refine ⟨I, ks.map fun i => ρ.getD i 0, ⟨rfl, rfl, rfl, Nat.le_refl _, fun _ _ _ => rfl, fun _ _ h => h, fun _ h => h, fun _ _ => rfl, fun _ h => .inl h, fun _ h => h, fun _ _ h => h, fun b hb => ?_⟩,
    ⟨by simp, fun j b blk h1 h2 h3 => ?_, hi.ib, fun j b blk h1 h2 h3 => ?_, fun i j b x y h1 h2 h3 h4 h5 h6 => ?_, fun j b blk h1 h2 => ?_⟩, ht.ren hσ, fun L hL hl => ?_⟩
  · rw [List.mem_map] at hb
    obtain ⟨i, h1, rfl⟩ := hb
    have h2 : i < ρ.length := by rw [hi.len]; exact hlt i h1
    exact .inl (by simp [h2])
  · obtain ⟨i, x, h4, h5, h6, rfl⟩ := hat j b blk h1 h2
    exact hi.bnd i b x h5 h6 (by rwa [renB_live] at h3)
  · obtain ⟨i, x, h4, h5, h6, rfl⟩ := hat j b blk h1 h2
    exact hi.live i b x h5 h6 (by rwa [renB_live] at h3)
  · obtain ⟨i', x', h7, h8, h9, rfl⟩ := hat i b x h1 h3
    obtain ⟨j', y', k7, k8, k9, rfl⟩ := hat j b y h2 h4
    rw [renB_live] at h5 h6
    have := hi.dist i' j' b x' y' h8 k8 h9 k9 h5 h6
    subst this
    have hil : i < ks.length := (List.getElem?_eq_some_iff.1 h7).1
    exact (List.getElem?_inj hil hk3).1 (h7.trans k7.symm)
  · obtain ⟨i, x, h4, h5, h6, rfl⟩ := hat j b blk h1 h2
    exact renB_rel hσ (hi.rel i b x h5 h6)
  · have e1 : L = ρ.take L.length := List.prefix_iff_eq_take.1 hL
    have e2 : (ks.map fun i => ρ.getD i 0).take L.length = ρ.take L.length := by
      have h1 : ks.take L.length = List.range L.length := by
        have := congrArg (List.take L.length) hk1
        rw [List.take_take, Nat.min_eq_left hl, List.take_range, Nat.min_eq_left hl] at this
        exact this
      rw [← List.map_take, h1]
      apply List.ext_getElem?
      intro i
      rw [List.getElem?_map, List.getElem?_take]
      by_cases h : i < L.length
      · have h2 : i < ρ.length := Nat.lt_of_lt_of_le h hL.length_le
        simp [h, h2]
      · simp [h]
    rw [List.prefix_iff_eq_take, e2]
    exact e1

/-- A loop whose rounds may lay blocks. -/
theorem AWp.loopT {γ : Type} {c : Code} (S : γ → Tm) (Hs : γ → List Blk) (inv : γ → Prop) (μ : γ → Nat) (g0 : γ) (h0 : inv g0) (hto : To P κ N T H (S g0) (Hs g0))
    (round : ∀ g, inv g → AWp P R N κ c (AX.then (fun T' H' => ∃ g', inv g' ∧ μ g' < μ g ∧ To P κ N T' H' (S g') (Hs g')) Q) (S g) (Hs g)) : AWp P R N κ (.loop c) Q T H := by
  intro B w I ρ a hi ht hm
  obtain ⟨I0, ρ0, k1, k2, k3, k4⟩ := hto w I ρ a.tmps hi ht
  refine wpIn_loop_by (fun g a' w' => inv g ∧ ∃ I' ρ', ExtW w I ρ w' I' ρ' ∧ Inv P w' I' ρ' (Hs g) ∧ TRel P w' I' ρ' N (S g) a'.tmps ∧ Marks κ B w' I' ρ' a'.defers) μ g0 ⟨h0, I0, ρ0, k1, k2, k3, hm.to k1 k4⟩ ?_
  rintro g a' w' ⟨hg, I', ρ', he, hi', ht', hm'⟩
  refine wpIn_mono (round g hg B w' I' ρ' a' hi' ht' hm') ?_
  rintro e a2 w2 ⟨z, J, σ, T1, H1, h1, h2, h3, h4, h5, h6⟩
  cases z <;> cases e <;> first | exact h1.elim | skip
  · obtain ⟨g', h7, h8, h9⟩ := h2
    obtain ⟨I3, ρ3, m1, m2, m3, m4⟩ := h9 w2 J σ a2.tmps h4 h5
    exact ⟨g', ⟨h7, I3, ρ3, (he.trans h3).trans m1, m2, m3, h6.to m1 m4⟩, h8⟩
  all_goals exact ⟨_, J, σ, T1, H1, h1, h2, he.trans h3, h4, h5, h6⟩

/-! ### Calls that keep some places -/
def ACallsK (P : Program) (κ : Nat) (f : FuncId) (args : List V) (H : List Blk) (Q : V → List Blk → Prop) : Prop :=
  ∀ (B : List Nat) w I ρ us, Inv P w I ρ H → RelVL P w I ρ args us → B <+: ρ → B.length ≤ κ →
    CallsIn Fence.wide 0 P f us.toArray w fun e w' => ∃ u v I' ρ' H', e = .returned u ∧ Q v H' ∧ ExtW w I ρ w' I' ρ' ∧ Inv P w' I' ρ' H' ∧ RelV P w' I' ρ' v u ∧ B <+: ρ'

theorem ACallsK.of_body {f : FuncId} {fn : Func} {c : Code} {args : List V} {Qr : V → List Blk → Prop} (hf : P.funcs[f]? = some fn) (hb : fn.body = some c) (hN : fn.ntmps = N) (hn : args.length ≤ N)
    (h : AWp P none N κ c (FinO P N fn Qr) (slotsAt 0 args) H) : ACallsK P κ f args H Qr := by
  subst hN
  intro B w I ρ us hi hus hBp hBκ
  have hl := RelVL.length hus
  refine callsIn_of_wp_marks hf hb trivial ?_ rfl
  have ht : TRel P w I ρ fn.ntmps (slotsAt 0 args) (us.toArray ++ Array.replicate (fn.ntmps - us.toArray.size) undef) := by
    refine ⟨by simp; omega, fun s v hv => ?_⟩
    have := slotsAt_rel args us 0 [] (List.replicate (fn.ntmps - us.length) undef) rfl hus s v hv
    have e : us.toArray ++ Array.replicate (fn.ntmps - us.toArray.size) undef = ([] ++ us ++ List.replicate (fn.ntmps - us.length) undef).toArray := by simp
    rw [e]; exact this
  refine wpIn_mono (h ⟨w.heap.size, B⟩ w I ρ { tmps := us.toArray ++ Array.replicate (fn.ntmps - us.toArray.size) undef, defers := [] } hi ht ⟨Nat.le_refl _, hBκ, hBp, [], rfl, List.nodup_nil, fun _ h => by cases h⟩) ?_
  rintro e a' w' ⟨z, I', ρ', T', H', h1, ⟨h2, v, hv, hq⟩, h3, h4, h5, hB, _, hpre, rs, h6, h7, h8⟩
  have fin : LeavesInM Fence.wide 0 P fn a'.tmps (fun e w' => ∃ u v I' ρ' H', e = .returned u ∧ Qr v H' ∧ ExtW w I ρ w' I' ρ' ∧ Inv P w' I' ρ' H' ∧ RelV P w' I' ρ' v u ∧ B <+: ρ') a'.defers .returning w' := by
    rw [h6]
    refine leaves_marks rs w' h7 (fun r hr => (h8 r hr).1) ?_
    intro w2 k1 k2 k3 k4 k5
    have kI : ∀ b, I' b → w2.heap[b]? = w'.heap[b]? := fun b hb => k1 b (fun hm => (h8 b hm).2.1 hb)
    have kρ : ∀ b : Nat, w'.heap[b]? ≠ some (Obj.deferred (some [])) → w2.heap[b]? = w'.heap[b]? := fun b hb => k1 b (fun hm => hb (h8 b hm).1)
    have ks : ∀ b s, w'.shape? b = some s → w2.shape? b = some s := fun b s hs => by
      refine (shape_of_block (k1 b (fun hm => ?_))).trans hs
      have := (h8 b hm).1
      simp [World.shape?, this] at hs
    have hi2 : Inv P w2 I' ρ' H' := h4.marks k5 kI kρ ks
    have ht2 : TRel P w2 I' ρ' fn.ntmps T' a'.tmps := ⟨h5.size, fun s x hx => RelV.mono (fun _ h => h) kI (List.prefix_refl _) (fun b _ s h => ks b s h) x _ (h5.at_ s x hx)⟩
    obtain ⟨u, hu1, hu2⟩ := hv w2 I' ρ' a'.tmps hi2 ht2
    refine ⟨u, hu1, u, v, I', ρ', H', rfl, hq, ?_, hi2, hu2, hpre⟩
    have hlow : ∀ b, b < w.heap.size → w2.heap[b]? = w'.heap[b]? := fun b hb => k1 b (fun hm => by have := (h8 b hm).2.2; simp only at this; omega)
    exact ⟨k2.trans h3.os, k3.trans h3.tape, k4.trans h3.output, by rw [k5]; exact h3.size, fun b hb hn => (hlow b hb).trans (h3.keep b hb hn),
      fun b s hs => ks b s (h3.shape b s hs), h3.imm, fun b hb => (kI b (h3.imm b hb)).trans (h3.immKeep b hb), h3.immNew, fun b hb => (hlow b (Array.getElem?_eq_some_iff.1 hb).1).trans (h3.defKeep b hb), h3.defI, h3.new⟩
  rcases h2 with rfl | rfl <;> cases e <;> first | exact h1.elim | exact fin
end
end Go.AF
