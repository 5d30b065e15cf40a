/-
  A call that works on some of the own blocks; all others stay as they are. No condition; generic over any program.
-/
import Derived.Test.YtofenmailjdehaaDoorAfR
set_option linter.unusedVariables false
namespace Go.AF
open Go
def putK : List Blk → List Nat → List Blk → List Blk
  | H, k :: ks, x :: xs => putK (H.set k x) ks xs
  | H, _, _ => H
theorem putK_length : ∀ (ks : List Nat) (xs : List Blk) (H : List Blk), (putK H ks xs).length = H.length
  | [], xs, H => by cases xs <;> rfl
  | k :: ks, [], H => rfl
  | k :: ks, x :: xs, H => by rw [putK, putK_length ks xs, List.length_set]
theorem putK_get : ∀ (ks : List Nat) (xs : List Blk) (H : List Blk) (i : Nat) (blk : Blk), ks.Nodup → xs.length = ks.length → (putK H ks xs)[i]? = some blk → (∃ j : Nat, ks[j]? = some i ∧ xs[j]? = some blk) ∨ (i ∉ ks ∧ H[i]? = some blk)
  | [], xs, H, i, blk, _, _, h => by
    have : putK H [] xs = H := by cases xs <;> rfl
    rw [this] at h
    exact .inr ⟨by simp, h⟩
  | k :: ks, [], H, i, blk, _, hl, h => by simp at hl
  | k :: ks, x :: xs, H, i, blk, hn, hl, h => by
    rw [List.nodup_cons] at hn
    rw [putK] at h
    rcases putK_get ks xs _ i blk hn.2 (by simpa using hl) h with ⟨j, h1, h2⟩ | ⟨h1, h2⟩
    · exact .inl ⟨j + 1, by simpa using h1, by simpa using h2⟩
    · by_cases e : k = i
      · subst e
        rw [List.getElem?_set] at h2
        simp only [if_true] at h2
        split at h2
        · exact .inl ⟨0, rfl, h2⟩
        · cases h2
      · rw [List.getElem?_set_ne e] at h2
        exact .inr ⟨by simp [h1, Ne.symm e], h2⟩
section
variable {P : Program} {R : Option Nat} {N κ : Nat} {Q : Post} {T : Tm} {H : List Blk} {o : Oper}
theorem Inv.some {w : World} {I : Nat → Prop} {ρ : List Nat} (hi : Inv P w I ρ H) (ks : List Nat) (hlt : ∀ i ∈ ks, i < H.length) (hk3 : ks.Nodup) :
    (∀ j i : Nat, ks[j]? = Option.some i → (ks.map fun i => ρ.getD i 0)[j]? = ρ[i]?) ∧ Inv P w I (ks.map fun i => ρ.getD i 0) (ks.map fun i => renB (pl ks) (H.getD i .dead)) := by
  have hρ2 : ∀ j i : Nat, ks[j]? = Option.some i → (ks.map fun i => ρ.getD i 0)[j]? = ρ[i]? := fun j i h => by
    have h1 : i < ρ.length := by rw [hi.len]; exact hlt i (List.mem_of_getElem? h)
    simp [h, h1]
  have hσ : ∀ i j b : Nat, pl ks i = Option.some j → ρ[i]? = Option.some b → (ks.map fun i => ρ.getD i 0)[j]? = Option.some b := fun i j b h hb => by rw [hρ2 j i (pl_get h)]; exact hb
  have hat : ∀ (j b : Nat) (blk : Blk), (ks.map fun i => ρ.getD i 0)[j]? = Option.some b → (ks.map fun i => renB (pl ks) (H.getD i .dead))[j]? = Option.some blk → ∃ i x, ks[j]? = Option.some i ∧ ρ[i]? = Option.some b ∧ H[i]? = Option.some x ∧ blk = renB (pl ks) x := by
    intro j b blk h1 h2
    rw [List.getElem?_map, Option.map_eq_some_iff] at h2
    obtain ⟨i, h3, rfl⟩ := h2
    have h4 := hlt i (List.mem_of_getElem? h3)
    rw [hρ2 j i h3] at h1
    exact ⟨i, H[i], h3, h1, by simp [h4], by simp [h4]⟩
  refine ⟨hρ2, ⟨by simp, fun j b blk h1 h2 h3 => ?_, hi.ib, fun j b blk h1 h2 h3 => ?_, fun i j b x y h1 h2 h3 h4 h5 h6 => ?_, fun j b blk h1 h2 => ?_, hi.gl⟩⟩
  · obtain ⟨i, x, h4, h5, h6, rfl⟩ := hat j b blk h1 h2
    exact hi.bnd i b x h5 h6 (by rwa [renB_live] at h3)
  · obtain ⟨i, x, h4, h5, h6, rfl⟩ := hat j b blk h1 h2
    exact hi.live i b x h5 h6 (by rwa [renB_live] at h3)
  · obtain ⟨i', x', h7, h8, h9, rfl⟩ := hat i b x h1 h3
    obtain ⟨j', y', k7, k8, k9, rfl⟩ := hat j b y h2 h4
    rw [renB_live] at h5 h6
    have := hi.dist i' j' b x' y' h8 k8 h9 k9 h5 h6
    subst this
    have hil : i < ks.length := (List.getElem?_eq_some_iff.1 h7).1
    exact (List.getElem?_inj hil hk3).1 (h7.trans k7.symm)
  · obtain ⟨i, x, h4, h5, h6, rfl⟩ := hat j b blk h1 h2
    exact renB_rel hσ (hi.rel i b x h5 h6)
/-- A call that works on the own blocks at some places, and leaves one of many states of them. -/
theorem AList.callXK (d : Nat) (ks : List Nat) {ops : Array Oper} {rest : List Oper} {f : Operand} {xs : Array Operand} {ts : Array TypeId} {fv : V} {vs all : List V} {g : FuncId} {Qr : V → List Blk → Prop} (hp : ACalls P g (renL (pl ks) all) (ks.map fun i => renB (pl ks) (H.getD i .dead)) Qr) (hlen : ∀ v H', Qr v H' → H'.length = ks.length)
    (hks : (ks.all (fun i => Nat.blt i H.length) && decide ks.Nodup) = true) (hlive : (ks.all fun i => (H.getD i .dead).live) = true) (ho : o.op = .call { callee := .value f, args := xs, argTypes := ts }) (hd : o.dst = some d) (hN : dstOk N (some d) = true) (hgd : o.guard = none) (hf : ev T f = some fv)
    (hxs : evs T xs.toList = some vs) (hc : callee vs fv = some (g, all)) (hg : realFn P g = true) (next : ∀ v H', Qr v H' → AList P R N κ ops rest Q ((d, renV (fun j => ks[j]?) v) :: T) (putK H ks (H'.map (renB fun j => ks[j]?)))) : AList P R N κ ops (o :: rest) Q T H := by
  intro QX B w I ρ a hi ht hm hq
  refine wpListIn_plain hgd fun K hK => ?_
  refine ⟨about_wide, ?_⟩
  rw [semAt_plain _ _ _ (by simp [ho])]
  obtain ⟨us, h1, h2⟩ := run_callOp ho ht hf hxs hc hg
  rw [h2]
  refine ⟨(fun h => by cases h), ?_⟩
  simp only [Bool.and_eq_true, List.all_eq_true, decide_eq_true_eq] at hks hlive
  have hlt : ∀ i ∈ ks, i < H.length := fun i h => by have := hks.1 i h; simpa [Nat.blt, Nat.lt_iff_add_one_le] using this
  obtain ⟨hρ2, hi0⟩ := hi.some ks hlt hks.2
  have hσ : ∀ i j b : Nat, pl ks i = some j → ρ[i]? = some b → (ks.map fun i => ρ.getD i 0)[j]? = some b := fun i j b h hb => by rw [hρ2 j i (pl_get h)]; exact hb
  refine CallsIn.mono (callsIn_fr R (hp w I _ us hi0 (renL_rel hσ all us h1))) ?_
  rintro e w' ⟨u, v', J, σ, H2, rfl, hQ, h3, h4, h5⟩
  have hl2 := hlen _ _ hQ
  obtain rfl : (ks.map fun i => ρ.getD i 0) = σ := h3.pre.eq_of_length (by rw [List.length_map, h4.len, hl2])
  have hσ' : ∀ i j b : Nat, (fun j => ks[j]?) i = some j → (ks.map fun i => ρ.getD i 0)[i]? = some b → ρ[j]? = some b := fun i j b h hb => by rw [← hρ2 i j h]; exact hb
  have hin : ∀ b, b ∈ (ks.map fun i => ρ.getD i 0) → ∃ j i : Nat, ks[j]? = some i ∧ ρ[i]? = some b := fun b hb => by
    obtain ⟨j, hj, e⟩ := List.getElem_of_mem hb
    have hjk : j < ks.length := by simpa using hj
    refine ⟨j, ks[j], List.getElem?_eq_getElem hjk, ?_⟩
    rw [← hρ2 j ks[j] (List.getElem?_eq_getElem hjk), ← e]
    exact List.getElem?_eq_getElem hj
  have hmem : ∀ b, b ∈ (ks.map fun i => ρ.getD i 0) → b ∈ ρ := fun b hb => by
    obtain ⟨j, i, _, h⟩ := hin b hb
    exact List.mem_of_getElem? h
  have hklive : ∀ j i : Nat, ks[j]? = some i → ∃ x, H[i]? = some x ∧ x.live = true := fun j i h => by
    have hi2 := hlt i (List.mem_of_getElem? h)
    refine ⟨H[i], List.getElem?_eq_getElem hi2, ?_⟩
    have := hlive i (List.mem_of_getElem? h)
    rwa [List.getD_eq_getElem?_getD, List.getElem?_eq_getElem hi2] at this
  -- what an own block that is at none of the places has, stays
  have hout : ∀ (i b : Nat) (x : Blk), ρ[i]? = some b → H[i]? = some x → x.live = true → i ∉ ks → b ∉ (ks.map fun i => ρ.getD i 0) := fun i b x g1 g2 g3 g4 hb => by
    obtain ⟨j, i2, k1, k2⟩ := hin b hb
    obtain ⟨y, k3, k4⟩ := hklive j i2 k1
    have := hi.dist i i2 b x y g1 k2 g2 k3 g3 k4
    subst this
    exact g4 (List.mem_of_getElem? k1)
  have hE : Ext w I ρ w' J ρ := ⟨⟨h3.w.os, h3.w.tape, h3.w.output, h3.w.size, fun b g1 g2 => h3.w.keep b g1 fun h => g2 (hmem b h), h3.w.shape, h3.w.imm, h3.w.immKeep, fun b h => by
    rcases h3.w.immNew b h with h | h | h
    · exact .inl h
    · exact .inr (.inl (hmem b h))
    · exact .inr (.inr h), h3.w.defKeep, h3.w.defI, fun b h => .inl h⟩, List.prefix_refl _⟩
  have hat : ∀ (i : Nat) (blk : Blk), (putK H ks (H2.map (renB fun j => ks[j]?)))[i]? = some blk → (∃ (j : Nat) (x : Blk), ks[j]? = some i ∧ H2[j]? = some x ∧ blk = renB (fun j => ks[j]?) x) ∨ (i ∉ ks ∧ H[i]? = some blk) := fun i blk h => by
    rcases putK_get ks _ H i blk hks.2 (by rw [List.length_map, hl2]) h with ⟨j, g1, g2⟩ | g
    · rw [List.getElem?_map, Option.map_eq_some_iff] at g2
      obtain ⟨x, g3, rfl⟩ := g2
      exact .inl ⟨j, x, g1, g3, rfl⟩
    · exact .inr g
  have hI : Inv P w' J ρ (putK H ks (H2.map (renB fun j => ks[j]?))) := by
    refine ⟨by rw [putK_length, hi.len], fun i b blk g1 g2 g3 => ?_, h4.ib, fun i b blk g1 g2 g3 => ?_, fun i i' b x y g1 g2 g3 g4 g5 g6 => ?_, fun i b blk g1 g2 => ?_, h4.gl⟩
    · rcases hat i blk g2 with ⟨j, x, k1, k2, rfl⟩ | ⟨k1, k2⟩
      · exact h4.bnd j b x (by rw [hρ2 j i k1]; exact g1) k2 (by rwa [renB_live] at g3)
      · exact Nat.lt_of_lt_of_le (hi.bnd i b blk g1 k2 g3) h3.w.size
    · rcases hat i blk g2 with ⟨j, x, k1, k2, rfl⟩ | ⟨k1, k2⟩
      · exact h4.live j b x (by rw [hρ2 j i k1]; exact g1) k2 (by rwa [renB_live] at g3)
      · intro hJ
        rcases h3.w.immNew b hJ with h | h | h
        · exact hi.live i b blk g1 k2 g3 h
        · exact hout i b blk g1 k2 g3 k1 h
        · have := hi.bnd i b blk g1 k2 g3; omega
    · rcases hat i x g3 with ⟨j, x', k1, k2, rfl⟩ | ⟨k1, k2⟩ <;> rcases hat i' y g4 with ⟨j', y', m1, m2, rfl⟩ | ⟨m1, m2⟩
      · rw [renB_live] at g5 g6
        have := h4.dist j j' b x' y' (by rw [hρ2 j i k1]; exact g1) (by rw [hρ2 j' i' m1]; exact g2) k2 m2 g5 g6
        subst this
        rw [k1] at m1
        exact Option.some.inj m1
      · exact absurd (List.mem_of_getElem? (by rw [hρ2 j i k1]; exact g1)) (hout i' b y g2 m2 g6 m1)
      · exact absurd (List.mem_of_getElem? (by rw [hρ2 j' i' m1]; exact g2)) (hout i b x g1 k2 g5 k1)
      · exact hi.dist i i' b x y g1 g2 k2 m2 g5 g6
    · rcases hat i blk g2 with ⟨j, x, k1, k2, rfl⟩ | ⟨k1, k2⟩
      · exact renB_rel hσ' (h4.rel j b x (by rw [hρ2 j i k1]; exact g1) k2)
      · cases hlv : blk.live with
        | false => exact RelB.dead_of hlv
        | true => exact RelB.mono h3.w.imm h3.w.immKeep (List.prefix_refl _) (fun b _ s hs => h3.w.shape b s hs) (h3.w.keep b (hi.bnd i b blk g1 k2 hlv) (hout i b blk g1 k2 hlv k1)) (hi.rel i b blk g1 k2)
  refine hK _ _ ?_
  refine next v' H2 hQ QX B w' J ρ (a.put o.dst u) hI (by rw [hd]; exact (ht.ext hE).put hN (renV_rel hσ' v' u h5)) ((hm.ext hE).put) fun e a2 w2 q => hq e a2 w2 (QC.ext hE.w q)
/-- Where a piece of code ends normally, own blocks may be dropped before what is asked is looked at. -/
theorem AWp.toEnd {c : Code} (h : AWp P R N κ c (AX.then (fun T' H' => ∃ T2 H2, To P κ N T' H' T2 H2 ∧ Q .normal T2 H2) Q) T H) : AWp P R N κ c Q T H := by
  intro B w I ρ a hi ht hm
  refine wpIn_mono (h B w I ρ a hi ht hm) ?_
  rintro e a' w' ⟨z, J, σ, T1, H1, h1, h2, h3, h4, h5, h6⟩
  cases z <;> cases e <;> first | exact h1.elim | skip
  · obtain ⟨T2, H2, k1, k2⟩ := h2
    obtain ⟨I', ρ', g1, g2, g3, g4⟩ := k1 w' J σ a'.tmps h4 h5
    exact ⟨.normal, I', ρ', T2, H2, trivial, k2, h3.trans g1, g2, g3, h6.to g1 g4⟩
  all_goals exact ⟨_, J, σ, T1, H1, h1, h2, h3, h4, h5, h6⟩
/-- The same, what holds at each round given by what there was before. -/
theorem AWp.rangeFuncH {g : Operand} {ps : Array Tmp} {asg body : Code} {fv : V} {f : FuncId} {mk : V → List V} {xs : List (List V)} (κ2 : Nat) (hg : ev T g = some fv) (hc : ∀ y, callee [y] fv = some (f, mk y)) (hf : realFn P f = true) (hseq : ASeq P f mk xs)
    (hκ : κ ≤ κ2) (hκn : κ2 ≤ H.length) (hR : ∀ l0, R = some l0 → ∃ (i : Nat) (r0 : LRec) (st : LoopState) (pe : Option Code), r0.l = l0 ∧ H[i]? = some (.loop r0 st pe)) (hps : ∀ x ∈ xs, x.length = ps.size) (hlt : ps.toList.all (fun p => Nat.blt p N) = true)
    (J : List Blk → Nat → List Blk → Prop) (Jx : List Blk → Code → List Blk → Prop) (hJ : ∀ k h, J H k h → h.length = H.length) (hJx : ∀ c h, Jx H c h → h.length = H.length) (h0 : J H 0 H)
    (round : ∀ l tmps k h x, J H k h → xs[k]? = some x → Round P N κ2 ⟨l, tmps, T, ps, asg, body⟩ k H.length (J H) (Jx H) (setPs T ps.toList x) (h ++ [.loop ⟨l, tmps, T, ps, asg, body⟩ .ready none]))
    (done : ∀ h, J H xs.length h → Q .normal T (h ++ [.dead])) (stop : ∀ c h, Jx H c h → AWp P R N κ c Q T (h ++ [.dead])) : AWp P R N κ (.rangeFunc g ps asg body) Q T H :=
  AWp.rangeFunc κ2 hg hc hf hseq hκ hκn hR hps hlt (J H) (Jx H) hJ hJx h0 round done stop
end
end Go.AF
