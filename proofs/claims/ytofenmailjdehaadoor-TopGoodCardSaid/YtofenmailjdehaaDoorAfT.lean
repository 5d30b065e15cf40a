/-
  Functions that yield in a range over another function. No condition; generic over any program.
-/
import Derived.Test.YtofenmailjdehaaDoorAfS
set_option linter.unusedVariables false
set_option linter.unusedSimpArgs false
set_option linter.unnecessarySimpa false
namespace Go.AF
open Go
def above (n i : Nat) : Option Nat := if Nat.blt i n then none else some i
def below (n i : Nat) : Option Nat := if Nat.blt i n then some i else none
/-- Blocks that refer to no places but their own ones. -/
def wfH (P : Program) (h : List Blk) : Prop := ∀ blk ∈ h, ∀ (w : World) (I : Nat → Prop) (ρ : List Nat) (b : Nat), RelB P w I ρ blk b → RelB P w I (ρ.take h.length) blk b
section
variable {P : Program} {w w2 : World} {I I2 : Nat → Prop} {ρ ρ2 : List Nat}
theorem take_get {l : List Nat} {n i b : Nat} (hi : i < n) (h : l[i]? = some b) : (l.take n)[i]? = some b := by rw [List.getElem?_take_of_lt hi]; exact h
mutual
theorem RelV.takeN : ∀ (v : V) (u u2 : Value), RelV P w I ρ v u → RelV P w2 I2 ρ2 v u2 → RelV P w2 I2 (ρ2.take ρ.length) v u2
  | .p x, u, u2, h, h2 => h2
  | .ptr i off, u, u2, h, h2 => by
    obtain ⟨b, h1, _⟩ := h
    obtain ⟨b2, h3, h4⟩ := h2
    exact ⟨b2, take_get (List.getElem?_eq_some_iff.1 h1).1 h3, h4⟩
  | .row i len, u, u2, h, h2 => by
    obtain ⟨b, e, cap, h1, _⟩ := h
    obtain ⟨b2, e2, cap2, h3, h4⟩ := h2
    exact ⟨b2, e2, cap2, take_get (List.getElem?_eq_some_iff.1 h1).1 h3, h4⟩
  | .sl i off len, u, u2, h, h2 => by
    obtain ⟨b, cap, h1, _⟩ := h
    obtain ⟨b2, cap2, h3, h4⟩ := h2
    exact ⟨b2, cap2, take_get (List.getElem?_eq_some_iff.1 h1).1 h3, h4⟩
  | .map i, u, u2, h, h2 => by
    obtain ⟨b, h1, _⟩ := h
    obtain ⟨b2, h3, h4⟩ := h2
    exact ⟨b2, take_get (List.getElem?_eq_some_iff.1 h1).1 h3, h4⟩
  | .func fn fi ca, u, u2, h, h2 => by
    obtain ⟨us, vs, _, h1, h3⟩ := h
    obtain ⟨us2, vs2, hu, k1, k3⟩ := h2
    exact ⟨us2, vs2, hu, RelVL.takeN fi _ _ h1 k1, RelVL.takeN ca _ _ h3 k3⟩
  | .iface t v, u, u2, h, h2 => by
    obtain ⟨x, _, h1⟩ := h
    obtain ⟨x2, hu, k1⟩ := h2
    exact ⟨x2, hu, RelV.takeN v _ _ h1 k1⟩
  | .agg cs, u, u2, h, h2 => by
    obtain ⟨us, _, h1⟩ := h
    obtain ⟨us2, hu, k1⟩ := h2
    exact ⟨us2, hu, RelVL.takeN cs _ _ h1 k1⟩
  | .tuple cs, u, u2, h, h2 => by
    obtain ⟨us, _, h1⟩ := h
    obtain ⟨us2, hu, k1⟩ := h2
    exact ⟨us2, hu, RelVL.takeN cs _ _ h1 k1⟩
  | .opt g v, u, u2, h, h2 => ⟨fun hg => RelV.takeN v u u2 (h.1 hg) (h2.1 hg), h2.2⟩
  | .top, u, u2, h, h2 => trivial
theorem RelVL.takeN : ∀ (vs : List V) (us us2 : List Value), RelVL P w I ρ vs us → RelVL P w2 I2 ρ2 vs us2 → RelVL P w2 I2 (ρ2.take ρ.length) vs us2
  | [], us, us2, h, h2 => h2
  | v :: vs, us, us2, h, h2 => by
    obtain ⟨u, us', _, h1, h3⟩ := h
    obtain ⟨u2, us2', hu, k1, k3⟩ := h2
    exact ⟨u2, us2', hu, RelV.takeN v u u2 h1 k1, RelVL.takeN vs us' us2' h3 k3⟩
end
theorem RelB.takeN {x : Blk} {b b2 : Nat} (h : RelB P w I ρ x b) (h2 : RelB P w2 I2 ρ2 x b2) : RelB P w2 I2 (ρ2.take ρ.length) x b2 := by
  cases x with
  | cells cs e =>
    obtain ⟨arr, _, h1⟩ := h
    obtain ⟨arr2, k0, k1⟩ := h2
    exact ⟨arr2, k0, RelVL.takeN cs _ _ h1 k1⟩
  | row cs e =>
    obtain ⟨arr, _, _, h1⟩ := h
    obtain ⟨arr2, k0, k1, k2⟩ := h2
    exact ⟨arr2, k0, k1, RelVL.takeN cs _ _ h1 k2⟩
  | map ks vs =>
    obtain ⟨es, clock, _, h1, h3, _⟩ := h
    obtain ⟨es2, clock2, k0, k1, k3, k4⟩ := h2
    exact ⟨es2, clock2, k0, RelVL.takeN ks _ _ h1 k1, RelVL.takeN vs _ _ h3 k3, k4⟩
  | strIter s pos => exact h2
  | mapIter ks vs last => exact h2
  | loop r st pe =>
    obtain ⟨_, _, h3⟩ := h
    obtain ⟨k0, k1, k3⟩ := h2
    exact ⟨k0, k1, fun s v hv => RelV.takeN v _ _ (h3 s v hv) (k3 s v hv)⟩
  | dead => trivial
theorem wfH_of {h : List Blk} (hi : Inv P w I ρ h) : wfH P h := by
  intro blk hm w' I' ρ' b' hrel
  obtain ⟨i, hlt, rfl⟩ := List.getElem_of_mem hm
  have hlt2 : i < ρ.length := by rw [hi.len]; exact hlt
  have := RelB.takeN (hi.rel i ρ[i] h[i] (List.getElem?_eq_getElem hlt2) (List.getElem?_eq_getElem hlt)) hrel
  rwa [hi.len] at this
end
/-- A round, seen by a function that has own blocks besides. -/
theorem BodyOk.frame {P : Program} {l : Nat} {h ext : List Blk} {args : List V} {Qb : Bool → List Blk → Prop} (hb : BodyOk P l 0 h args Qb) (hw : wfH P h) (hl : h.all Blk.live = true) (hc : ext.map (renB (above h.length)) = ext) (ha : renL (fun _ => none) args = args)
    (hlen : ∀ b h', Qb b h' → h'.length = h.length) : BodyOk P l 0 (h ++ ext) args fun b H' => ∃ h', Qb b h' ∧ wfH P h' ∧ H' = h' ++ ext := by
  intro B w I ρ us hi hus hB hBκ
  obtain rfl : B = [] := List.eq_nil_of_length_eq_zero (by omega)
  have hρ : ρ.length = h.length + ext.length := by rw [hi.len, List.length_append]
  have hlv : ∀ (i : Nat) (blk : Blk), h[i]? = some blk → blk.live = true := fun i blk e => List.all_eq_true.1 hl blk (List.mem_of_getElem? e)
  have t1 : ∀ (i b : Nat), (ρ.take h.length)[i]? = some b → i < h.length ∧ ρ[i]? = some b := fun i b e => by
    have hlt : i < h.length := by
      have := (List.getElem?_eq_some_iff.1 e).1
      rw [List.length_take] at this
      omega
    rw [List.getElem?_take_of_lt hlt] at e
    exact ⟨hlt, e⟩
  have t2 : ∀ (i : Nat) (blk : Blk), h[i]? = some blk → (h ++ ext)[i]? = some blk := fun i blk e => by
    rw [List.getElem?_append_left (List.getElem?_eq_some_iff.1 e).1]
    exact e
  have hi1 : Inv P w I (ρ.take h.length) h := by
    refine ⟨by rw [List.length_take]; omega, fun i b blk h1 h2 h3 => hi.bnd i b blk (t1 i b h1).2 (t2 i blk h2) h3, hi.ib, fun i b blk h1 h2 h3 => hi.live i b blk (t1 i b h1).2 (t2 i blk h2) h3, fun i j b x y h1 h2 h3 h4 h5 h6 => hi.dist i j b x y (t1 i b h1).2 (t1 j b h2).2 (t2 i x h3) (t2 j y h4) h5 h6, fun i b blk h1 h2 => ?_, hi.gl⟩
    exact hw blk (List.mem_of_getElem? h2) w I ρ b (hi.rel i b blk (t1 i b h1).2 (t2 i blk h2))
  have hus1 : RelVL P w I (ρ.take h.length) args us := by
    have := renL_rel (σ := fun _ => none) (ρ2 := ρ.take h.length) (by intro i j b h; cases h) args us hus
    rwa [ha] at this
  obtain ⟨fn, tmps, asg, body, hrun, hr⟩ := hb [] w I (ρ.take h.length) us hi1 hus1 List.nil_prefix (Nat.zero_le _)
  refine ⟨fn, tmps, asg, body, hrun, RoundIn.mono hr ?_⟩
  rintro e w' ⟨b, I', ρ', h', rfl, hQ, hE, hi', _⟩
  have hl' : h'.length = h.length := hlen b h' hQ
  have hρ' : ρ'.length = h.length := by rw [hi'.len, hl']
  have hmem : ∀ b, b ∈ ρ.take h.length → b ∈ ρ := fun b hb => List.mem_of_mem_take hb
  have hmemd : ∀ b, b ∈ ρ.drop h.length → b ∈ ρ := fun b hb => List.mem_of_mem_drop hb
  have hE2 : ExtW w I ρ w' I' (ρ' ++ ρ.drop h.length) := ⟨hE.os, hE.tape, hE.output, hE.size, fun b h1 h2 => hE.keep b h1 fun h3 => h2 (hmem b h3), hE.shape, hE.imm, hE.immKeep, fun b hb => by
    rcases hE.immNew b hb with h1 | h1 | h1
    · exact .inl h1
    · exact .inr (.inl (hmem b h1))
    · exact .inr (.inr h1), hE.defKeep, hE.defI, fun b hb => by
    rcases List.mem_append.1 hb with h1 | h1
    · rcases hE.new b h1 with h2 | h2
      · exact .inl (hmem b h2)
      · exact .inr h2
    · exact .inl (hmemd b h1)⟩
  have hx : ∀ (j b : Nat) (blk : Blk), (ρ.drop h.length)[j]? = some b → ext[j]? = some blk → ρ[h.length + j]? = some b ∧ (h ++ ext)[h.length + j]? = some blk := fun j b blk h1 h2 => by
    rw [List.getElem?_drop] at h1
    refine ⟨h1, ?_⟩
    rw [List.getElem?_append_right (by omega), Nat.add_sub_cancel_left]
    exact h2
  have hxl : ∀ (j b : Nat) (blk : Blk), (ρ.drop h.length)[j]? = some b → ext[j]? = some blk → blk.live = true → b < w.heap.size ∧ b ∉ ρ.take h.length ∧ ¬ I b := fun j b blk h1 h2 h3 => by
    obtain ⟨h4, h5⟩ := hx j b blk h1 h2
    refine ⟨hi.bnd _ b blk h4 h5 h3, fun hm => ?_, hi.live _ b blk h4 h5 h3⟩
    obtain ⟨i, hlt, hib⟩ := List.getElem_of_mem hm
    obtain ⟨h6, h7⟩ := t1 i b (by rw [← hib]; exact List.getElem?_eq_getElem hlt)
    have := hi.dist i (h.length + j) b h[i] blk h7 h4 (t2 i _ (List.getElem?_eq_getElem h6)) h5 (hlv i _ (List.getElem?_eq_getElem h6)) h3
    omega
  have hat : ∀ (i b : Nat) (blk : Blk), (ρ' ++ ρ.drop h.length)[i]? = some b → (h' ++ ext)[i]? = some blk → (i < h.length ∧ ρ'[i]? = some b ∧ h'[i]? = some blk) ∨ ∃ j, i = h.length + j ∧ (ρ.drop h.length)[j]? = some b ∧ ext[j]? = some blk := fun i b blk h1 h2 => by
    rcases Nat.lt_or_ge i h.length with h3 | h3
    · rw [List.getElem?_append_left (by omega)] at h1 h2
      exact .inl ⟨h3, h1, h2⟩
    · rw [List.getElem?_append_right (by omega)] at h1 h2
      rw [hρ'] at h1
      rw [hl'] at h2
      exact .inr ⟨i - h.length, by omega, h1, h2⟩
  have hfar : ∀ (i b : Nat) (blk : Blk), ρ'[i]? = some b → ∀ (j : Nat) (y : Blk), (ρ.drop h.length)[j]? = some b → ext[j]? = some y → y.live = true → False := fun i b blk h1 j y h2 h3 h4 => by
    obtain ⟨h5, h6, _⟩ := hxl j b y h2 h3 h4
    rcases hE.new b (List.mem_of_getElem? h1) with h7 | h7
    · exact h6 h7
    · omega
  refine ⟨b, I', ρ' ++ ρ.drop h.length, h' ++ ext, rfl, ⟨h', hQ, wfH_of hi', rfl⟩, hE2, ?_, List.nil_prefix⟩
  refine ⟨by rw [List.length_append, List.length_append, List.length_drop]; omega, fun i b blk h1 h2 h3 => ?_, hi'.ib, fun i b blk h1 h2 h3 => ?_, fun i j b x y h1 h2 h3 h4 h5 h6 => ?_, fun i b blk h1 h2 => ?_, hi'.gl⟩
  · rcases hat i b blk h1 h2 with ⟨_, k1, k2⟩ | ⟨j, _, k1, k2⟩
    · exact hi'.bnd i b blk k1 k2 h3
    · exact Nat.lt_of_lt_of_le (hxl j b blk k1 k2 h3).1 hE.size
  · rcases hat i b blk h1 h2 with ⟨_, k1, k2⟩ | ⟨j, _, k1, k2⟩
    · exact hi'.live i b blk k1 k2 h3
    · obtain ⟨k3, k4, k5⟩ := hxl j b blk k1 k2 h3
      intro hI
      rcases hE.immNew b hI with h | h | h
      · exact k5 h
      · exact k4 h
      · omega
  · rcases hat i b x h1 h3 with ⟨_, k1, k2⟩ | ⟨i2, k0, k1, k2⟩ <;> rcases hat j b y h2 h4 with ⟨_, m1, m2⟩ | ⟨j2, m0, m1, m2⟩
    · exact hi'.dist i j b x y k1 m1 k2 m2 h5 h6
    · exact (hfar i b x k1 j2 y m1 m2 h6).elim
    · exact (hfar j b y m1 i2 x k1 k2 h5).elim
    · obtain ⟨n1, n2⟩ := hx i2 b x k1 k2
      obtain ⟨n3, n4⟩ := hx j2 b y m1 m2
      have := hi.dist _ _ b x y n1 n3 n2 n4 h5 h6
      omega
  · rcases hat i b blk h1 h2 with ⟨_, k1, k2⟩ | ⟨j, _, k1, k2⟩
    · exact RelB.mono (fun _ h => h) (fun _ _ => rfl) (List.prefix_append _ _) (fun b _ s hs => hs) rfl (hi'.rel i b blk k1 k2)
    · cases hlb : blk.live with
      | false => exact RelB.dead_of hlb
      | true =>
        obtain ⟨n1, n2⟩ := hx j b blk k1 k2
        obtain ⟨n3, n4, _⟩ := hxl j b blk k1 k2 hlb
        have hr0 : RelB P w I (ρ' ++ ρ.drop h.length) (renB (above h.length) blk) b := by
          refine renB_rel (fun i j b2 g1 g2 => ?_) (hi.rel _ b blk n1 n2)
          unfold above at g1
          split at g1
          · cases g1
          · rename_i g3
            cases g1
            have g4 : h.length ≤ i := by
              rcases Nat.lt_or_ge i h.length with g5 | g5
              · exact absurd (show Nat.blt i h.length = true by simpa [Nat.blt, Nat.lt_iff_add_one_le] using g5) g3
              · exact g5
            rw [List.getElem?_append_right (by omega), hρ', List.getElem?_drop, Nat.add_sub_cancel' g4]
            exact g2
        have hcb : renB (above h.length) blk = blk := by
          have := congrArg (fun z => z[j]?) hc
          simp only [List.getElem?_map, k2, Option.map_some] at this
          exact Option.some.inj this
        rw [hcb] at hr0
        exact RelB.mono hE.imm hE.immKeep (List.prefix_refl _) (fun b _ s hs => hE.shape b s hs) (hE.keep b n3 n4) hr0
/-- More blocks, that refer to no later ones. -/
theorem wfH.append {P : Program} {h ext : List Blk} (hw : wfH P h) (hc : ext.map (renB (below (h.length + ext.length))) = ext) : wfH P (h ++ ext) := by
  intro blk hm w I ρ b hr
  rw [List.length_append]
  rcases List.mem_append.1 hm with h1 | h1
  · have h2 := hw blk h1 w I ρ b hr
    refine RelB.mono (fun _ h => h) (fun _ _ => rfl) ?_ (fun b _ s hs => hs) rfl h2
    exact List.take_prefix_take_left (Nat.le_add_right _ _)
  · obtain ⟨j, hj, rfl⟩ := List.getElem_of_mem h1
    have hcb : renB (below (h.length + ext.length)) ext[j] = ext[j] := by
      have := congrArg (fun z => z[j]?) hc
      simp only [List.getElem?_map, List.getElem?_eq_getElem hj, Option.map_some] at this
      exact Option.some.inj this
    rw [← hcb]
    refine renB_rel (fun i k b2 g1 g2 => ?_) hr
    unfold below at g1
    split at g1
    · rename_i g3
      cases g1
      exact take_get (by simpa [Nat.blt, Nat.lt_iff_add_one_le] using g3) g2
    · cases g1
/-- A function that yields xs, to a loop whose own blocks are all live. -/
def ASeqZ (P : Program) (n : Nat) (f : FuncId) (mk : V → List V) (xs : List (List V)) : Prop :=
  ∀ (l : Nat) (inv : Nat → List Blk → Prop) (fin : List Blk → Prop), (∀ k h, inv k h → h.length = n ∧ h.all Blk.live = true) → (∀ h, fin h → h.length = n ∧ h.all Blk.live = true) →
    (∀ k h x, inv k h → xs[k]? = some x → BodyOk P l 0 h x fun b h' => if b = true then inv (k + 1) h' else fin h') →
    ∀ h0, inv 0 h0 → ACallsK P 0 f (mk (yieldV l)) h0 fun _ h' => inv xs.length h' ∨ fin h'
theorem ACallsK.of_wf {P : Program} {κ : Nat} {f : FuncId} {args : List V} {H : List Blk} {Q : V → List Blk → Prop} (h : wfH P H → ACallsK P κ f args H Q) : ACallsK P κ f args H Q :=
  fun B w I ρ us hi hus hB hBκ => h (wfH_of hi) B w I ρ us hi hus hB hBκ
/-- The last blocks may be forgotten. -/
theorem To.pop {P : Program} {N : Nat} {T : Tm} {H ext : List Blk} (hw : wfH P H) : To P 0 N T (H ++ ext) [] H := by
  intro w I ρ tmps hi ht
  have hρ : ρ.length = H.length + ext.length := by rw [hi.len, List.length_append]
  have t1 : ∀ (i b : Nat), (ρ.take H.length)[i]? = some b → i < H.length ∧ ρ[i]? = some b := fun i b e => by
    have hlt : i < H.length := by
      have := (List.getElem?_eq_some_iff.1 e).1
      rw [List.length_take] at this
      omega
    rw [List.getElem?_take_of_lt hlt] at e
    exact ⟨hlt, e⟩
  have t2 : ∀ (i : Nat) (blk : Blk), H[i]? = some blk → (H ++ ext)[i]? = some blk := fun i blk e => by
    rw [List.getElem?_append_left (List.getElem?_eq_some_iff.1 e).1]
    exact e
  refine ⟨I, ρ.take H.length, ?_, ?_, ⟨ht.size, fun s v hv => by cases hv⟩, fun B hB hκ => ?_⟩
  · have h0 := ExtW.refl w I ρ
    exact ⟨h0.os, h0.tape, h0.output, h0.size, h0.keep, h0.shape, h0.imm, h0.immKeep, h0.immNew, h0.defKeep, h0.defI, fun b hb => .inl (List.mem_of_mem_take hb)⟩
  · refine ⟨by rw [List.length_take]; omega, fun i b blk h1 h2 h3 => hi.bnd i b blk (t1 i b h1).2 (t2 i blk h2) h3, hi.ib, fun i b blk h1 h2 h3 => hi.live i b blk (t1 i b h1).2 (t2 i blk h2) h3, fun i j b x y h1 h2 h3 h4 h5 h6 => hi.dist i j b x y (t1 i b h1).2 (t1 j b h2).2 (t2 i x h3) (t2 j y h4) h5 h6, fun i b blk h1 h2 => ?_, hi.gl⟩
    exact hw blk (List.mem_of_getElem? h2) w I ρ b (hi.rel i b blk (t1 i b h1).2 (t2 i blk h2))
  · obtain rfl : B = [] := List.eq_nil_of_length_eq_zero (by omega)
    exact List.nil_prefix
section
variable {P : Program} {R : Option Nat} {N : Nat} {Q Q' : Post} {T T' T2 T3 : Tm} {H H' H2 H3 : List Blk} {o : Oper} {ops : Array Oper} {rest : List Oper}
/-- A range over a function that itself ranges over functions. -/
theorem AWp.rangeFuncZ {g : Operand} {ps : Array Tmp} {asg body : Code} {fv : V} {f : FuncId} {mk : V → List V} {xs : List (List V)} (hg : ev T g = some fv) (hc : ∀ y, callee [y] fv = some (f, mk y)) (hf : realFn P f = true) (hseq : ASeqZ P (H.length + 1) f mk xs)
    (hR : ∀ l0, R = some l0 → ∃ (i : Nat) (r0 : LRec) (st : LoopState) (pe : Option Code), r0.l = l0 ∧ H[i]? = some (.loop r0 st pe)) (hps : ∀ x ∈ xs, x.length = ps.size) (hlt : ps.toList.all (fun p => Nat.blt p N) = true)
    (J : Nat → List Blk → Prop) (Jx : Code → List Blk → Prop) (hJ : ∀ k h, J k h → h.length = H.length ∧ h.all Blk.live = true) (hJx : ∀ c h, Jx c h → h.length = H.length ∧ h.all Blk.live = true) (h0 : J 0 H)
    (round : ∀ l tmps k h x, J k h → xs[k]? = some x → Round P N 0 ⟨l, tmps, T, ps, asg, body⟩ k H.length J Jx (setPs T ps.toList x) (h ++ [.loop ⟨l, tmps, T, ps, asg, body⟩ .ready none]))
    (done : ∀ h, J xs.length h → Q .normal T (h ++ [.dead])) (stop : ∀ c h, Jx c h → AWp P R N 0 c Q T (h ++ [.dead])) : AWp P R N 0 (.rangeFunc g ps asg body) Q T H := by
  intro B w I ρ a hi ht hm
  refine wpIn_rangeFunc ?_
  intro fn _
  -- the record
  have entry : ∃ (l : Nat) (mark : List Deferred) (w1 : World), (Instr.enterLoop fn a.tmps ps asg body R).run P w = .ok (l, mark) w1 ∧ Ext w I ρ w1 I (ρ ++ [l]) ∧
      Inv P w1 I (ρ ++ [l]) (H ++ [.loop ⟨l, a.tmps, T, ps, asg, body⟩ .ready none]) ∧ Marks 0 B w1 I (ρ ++ [l]) (mark ++ a.defers) := by
    cases R with
    | none =>
      have hi1 := Inv.allocJunk hi (.deferred (some []))
      have he1 := Ext.allocJunk hi (.deferred (some []))
      let ob : Obj := .loop { state := .ready, pending := none, fn, tmps := a.tmps, params := ps, assign := asg, body, defers := w.heap.size }
      have he2 : Ext (w.alloc (.deferred (some []))) I ρ _ I _ := Ext.allocOwn hi1 ob
      have hE := he1.trans he2
      have hsz : (w.alloc (.deferred (some []))).heap.size = w.heap.size + 1 := by simp
      rw [hsz] at hE
      refine ⟨w.heap.size + 1, _, _, run_enterLoop_outer fn a.tmps ps asg body, hE, ?_, ?_⟩
      · have hx : RelB P ((w.alloc (.deferred (some []))).alloc ob) I (ρ ++ [w.heap.size + 1]) (.loop ⟨w.heap.size + 1, a.tmps, T, ps, asg, body⟩ .ready none) (w.heap.size + 1) := by
          refine ⟨rfl, ⟨fn, w.heap.size, ?_⟩, fun s v hv => (ht.at_ s v hv).ext hE⟩
          have := heap_alloc_new (w.alloc (.deferred (some []))) ob
          rw [hsz] at this
          exact this
        have := Inv.allocOwn hi1 ob (blk := .loop ⟨w.heap.size + 1, a.tmps, T, ps, asg, body⟩ .ready none) (by rw [hsz]; exact hx)
        rwa [hsz] at this
      · obtain ⟨h1, h2, h3, rs, h4, h5, h6⟩ := hm.ext hE
        refine ⟨h1, h2, h3, w.heap.size :: rs, by simp [h4], List.nodup_cons.2 ⟨fun hmem => ?_, h5⟩, fun r hr => ?_⟩
        · obtain ⟨rs', g4, g5, g6⟩ := hm.2.2.2
          have e : rs' = rs := by
            have := g4.symm.trans h4
            exact (List.map_inj_right (fun x y hxy => by simpa using hxy)).1 this
          subst e
          have := (Array.getElem?_eq_some_iff.1 (g6 _ hmem).1).1
          omega
        · rcases List.mem_cons.1 hr with rfl | hr
          · refine ⟨?_, fun hI => by have := hi.ib _ hI; omega, hm.1⟩
            rw [heap_alloc_old _ _ (by simp)]
            exact heap_alloc_new w _
          · exact h6 r hr
    | some l0 =>
      obtain ⟨i, r0, st, pe, hl0, hH0⟩ := hR l0 rfl
      obtain ⟨_, ⟨fn0, d0, hw0⟩, _⟩ := loop_at hi hH0
      rw [hl0] at hw0
      let ob : Obj := .loop { state := .ready, pending := none, fn, tmps := a.tmps, params := ps, assign := asg, body, defers := d0 }
      have hE : Ext w I ρ (w.alloc ob) I (ρ ++ [w.heap.size]) := Ext.allocOwn hi ob
      refine ⟨w.heap.size, [], _, run_enterLoop_in hw0 fn a.tmps ps asg body, hE, Inv.allocOwn hi ob ⟨rfl, ⟨fn, d0, heap_alloc_new w ob⟩, fun s v hv => (ht.at_ s v hv).ext hE⟩, hm.ext hE⟩
  obtain ⟨l, mark, w1, hen, hE, hi1, hm1⟩ := entry
  obtain ⟨d, us, hus, hres, hinv⟩ := run_rangeCall (ht.ext hE) hg (hc (yieldV l)) hf
  refine ⟨l, mark, w1, d, w1, f, us.toArray, w1, hen, hres, (fun _ _ => trivial), hinv, (fun h => by cases h), ?_⟩
  have hlen1 : ∀ k h, (∃ h0, J k h0 ∧ h = h0 ++ [Blk.loop ⟨l, a.tmps, T, ps, asg, body⟩ .ready none]) → h.length = H.length + 1 ∧ h.all Blk.live = true := by
    rintro k h ⟨h0, h1, rfl⟩
    exact ⟨by simp [(hJ k h0 h1).1], by rw [List.all_append, (hJ k h0 h1).2]; rfl⟩
  have hcall := hseq l (fun k h => ∃ h0, J k h0 ∧ h = h0 ++ [Blk.loop ⟨l, a.tmps, T, ps, asg, body⟩ .ready none]) (fun h => ∃ h0 c, Jx c h0 ∧ h = h0 ++ [Blk.loop ⟨l, a.tmps, T, ps, asg, body⟩ .done (some c)])
    hlen1 (by rintro h ⟨h0, c, h1, rfl⟩; exact ⟨by simp [(hJx c h0 h1).1], by rw [List.all_append, (hJx c h0 h1).2]; rfl⟩) (by
      rintro k h x ⟨h0, h1, rfl⟩ hx
      have := Round.ok (r := ⟨l, a.tmps, T, ps, asg, body⟩) (hJ k h0 h1).1 (fun h e => (hJ (k + 1) h e).1) (fun c h e => (hJx c h e).1) (hps x (List.mem_of_getElem? hx)) (fun p hp => by
        have := (List.all_eq_true.1 hlt) p hp
        simpa [Nat.blt, Nat.lt_iff_add_one_le] using this) ht.size (round l a.tmps k h0 x h1 hx)
      exact this) _ ⟨H, h0, rfl⟩ B.pre w1 I (ρ ++ [l]) us hi1 hus (hm1.2.2.1) hm1.2.1
  refine CallsIn.mono (callsIn_fr R hcall) ?_
  rintro e w3 ⟨u, v, I3, ρ3, H3, rfl, hfin, h1, h2, h3, h4⟩
  have hback : ∀ (h' : List Blk) (st : LoopState) (pe : Option Code), h'.length = H.length → st ≠ .busy → H3 = h' ++ [.loop ⟨l, a.tmps, T, ps, asg, body⟩ st pe] →
      ∃ w4, (Instr.endLoop l).run P w3 = .ok pe w4 ∧ ExtW w I ρ w4 I3 ρ3 ∧ Inv P w4 I3 ρ3 (h' ++ [.dead]) ∧ TRel P w4 I3 ρ3 N T a.tmps ∧ Marks 0 B w4 I3 ρ3 (mark ++ a.defers) := by
    rintro h' st pe hl' hst rfl
    have hat : (h' ++ [Blk.loop ⟨l, a.tmps, T, ps, asg, body⟩ st pe])[H.length]? = some (.loop ⟨l, a.tmps, T, ps, asg, body⟩ st pe) := by rw [← hl']; simp
    obtain ⟨_, ⟨fn3, d3, hl3⟩, hT3⟩ := loop_at h2 hat
    obtain ⟨hE3, hi3⟩ := loop_turn (st' := .exhausted) (pe' := pe) h2 hat hl3 _ rfl
    refine ⟨_, run_endLoop hl3 hst, (hE.w.trans h1).trans hE3.w, ?_, ⟨ht.size, fun s v hv => (hT3 s v hv).ext hE3⟩, (hm1.extW h1 h4).ext hE3⟩
    have := hi3.kill H.length
    rw [← hl', set_last, set_last] at this
    exact this
  rcases hfin with ⟨h', hj, rfl⟩ | ⟨h', c, hj, rfl⟩
  · obtain ⟨w4, e1, e2, e3, e4, e5⟩ := hback h' .ready none (hJ _ _ hj).1 (by simp) rfl
    exact ⟨none, w4, e1, .normal, I3, ρ3, T, _, trivial, done h' hj, e2, e3, e4, e5⟩
  · obtain ⟨w4, e1, e2, e3, e4, e5⟩ := hback h' .done (some c) (hJx _ _ hj).1 (by simp) rfl
    exact ⟨some c, w4, e1, wpIn_mono (stop c h' hj B w4 I3 ρ3 { a with defers := mark ++ a.defers } e3 e4 e5) fun _ _ _ q => QC.ext e2 q⟩
end
end Go.AF
