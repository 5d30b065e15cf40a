/-
  Regions that draw their order, in which one own block is laid at some moment. No condition; generic over any program.
-/
import Derived.Test.YtmcejcidbekpkaaAf17
set_option linter.unusedVariables false
set_option linter.unusedSimpArgs false
set_option linter.unnecessarySimpa false
namespace Go.AF

/-- One pass in the order of the text; one of the operations takes the own blocks from H to H2. -/
def AQuietA (P : Program) (N : Nat) (ops : Array Oper) (H H2 : List Blk) (K : Tm → Prop) : Bool → List Oper → Tm → Prop
  | b, [], T => b = true ∧ K T
  | b, o :: rest, T => ∃ v, dstOk N o.dst = true ∧ ((YJ P N ops o T H v ∧ YJ P N ops o T H2 v ∧ AQuietA P N ops H H2 K b rest (setT T o.dst v)) ∨ (b = false ∧ o.guard = none ∧ OpJ P N o (restr ops o T) H v H2 ∧ AQuietA P N ops H H2 K true rest (setT T o.dst v)))

section
variable {P : Program} {R : Option Nat} {N κ : Nat} {Q : Post} {T : Tm} {H H2 : List Blk} {o : Oper} {ops : Array Oper} {K : Tm → Prop} {rest : List Oper} {b : Bool}
theorem AQuietA.nil (h : K T) : AQuietA P N ops H H2 K true [] T := ⟨rfl, h⟩
theorem AQuietA.cons (d : Nat) {v : V} (hd : o.dst = some d) (hdN : dstOk N (some d) = true) (hg : o.guard = none) (hop : OpJ P N o (restr ops o T) H v H) (hop2 : OpJ P N o (restr ops o T) H2 v H2) (next : AQuietA P N ops H H2 K b rest ((d, v) :: T)) : AQuietA P N ops H H2 K b (o :: rest) T :=
  ⟨v, by rw [hd]; exact hdN, .inl ⟨.inl ⟨hg, hop⟩, .inl ⟨hg, hop2⟩, by rw [hd]; exact next⟩⟩
theorem AQuietA.lay (d : Nat) {v : V} (hd : o.dst = some d) (hdN : dstOk N (some d) = true) (hg : o.guard = none) (hop : OpJ P N o (restr ops o T) H v H2) (next : AQuietA P N ops H H2 K true rest ((d, v) :: T)) : AQuietA P N ops H H2 K false (o :: rest) T :=
  ⟨v, by rw [hd]; exact hdN, .inr ⟨rfl, hg, hop, by rw [hd]; exact next⟩⟩
theorem AQuietA.guard (d s : Nat) {j : Nat} {want c : Bool} {x v : V} (hd : o.dst = some d) (hdN : dstOk N (some d) = true) (hg : o.guard = some (j, want)) (hs : gslot ops j = some s) (hsN : dstOk N (some s) = true) (hb : lk (restr ops o T) s = some x) (hc : gcond want x = some c)
    (T2 : Tm) (h2 : c = true → subG T2 (restr ops o T)) (hop : c = true → OpJ P N o T2 H v H) (hop2 : c = true → OpJ P N o T2 H2 v H2) (next : AQuietA P N ops H H2 K b rest ((d, .opt c v) :: T)) : AQuietA P N ops H H2 K b (o :: rest) T :=
  ⟨_, by rw [hd]; exact hdN, .inl ⟨.inr ⟨j, want, s, c, x, v, hg, hs, hsN, hb, hc, rfl, fun h => ⟨T2, h2 h, hop h⟩⟩, .inr ⟨j, want, s, c, x, v, hg, hs, hsN, hb, hc, rfl, fun h => ⟨T2, h2 h, hop2 h⟩⟩, by rw [hd]; exact next⟩⟩

section
variable {m : Nat} {l : List Oper} {vs : Nat → V}
theorem AQuietA.vals {ops : Array Oper} : ∀ {b : Bool} {l' : List Oper} {T : Tm}, AQuietA P N ops H H2 K b l' T → ∃ (vs : Nat → V) (Tx : Nat → Tm) (q : Nat), Tx 0 = T ∧ (b = false → q < l'.length) ∧ (b = true → q = l'.length) ∧ (∀ i o, l'[i]? = some o → dstOk N o.dst = true ∧ ((i ≠ q ∧ YJ P N ops o (Tx i) H (vs i) ∧ YJ P N ops o (Tx i) H2 (vs i)) ∨ (i = q ∧ o.guard = none ∧ OpJ P N o (restr ops o (Tx i)) H (vs i) H2)) ∧ Tx (i + 1) = setT (Tx i) o.dst (vs i)) ∧ K (Tx l'.length)
  | b, [], T, h => ⟨fun _ => .top, fun _ => T, 0, rfl, (fun hb => by have := h.1; rw [hb] at this; cases this), fun _ => rfl, fun i o ho => by simp at ho, h.2⟩
  | b, o :: l', T, h => by
    obtain ⟨v, hd, h⟩ := h
    rcases h with ⟨hy, hy2, hn⟩ | ⟨hb, hg, hop, hn⟩
    · obtain ⟨vs, Tx, q, h0, hqf, hqt, h1, h2⟩ := AQuietA.vals hn
      refine ⟨fun i => match i with | 0 => v | i + 1 => vs i, fun i => match i with | 0 => T | i + 1 => Tx i, q + 1, rfl, fun hb => by have := hqf hb; simp; omega, fun hb => by have := hqt hb; simp; omega, fun i x hx => ?_, h2⟩
      cases i with
      | zero => simp at hx; subst hx; exact ⟨hd, .inl ⟨by omega, hy, hy2⟩, h0⟩
      | succ i =>
        simp at hx
        obtain ⟨k1, k2, k3⟩ := h1 i x hx
        refine ⟨k1, ?_, k3⟩
        rcases k2 with ⟨k4, k5⟩ | ⟨k4, k5⟩
        · exact .inl ⟨by omega, k5⟩
        · exact .inr ⟨by omega, k5⟩
    · obtain ⟨vs, Tx, q, h0, hqf, hqt, h1, h2⟩ := AQuietA.vals hn
      refine ⟨fun i => match i with | 0 => v | i + 1 => vs i, fun i => match i with | 0 => T | i + 1 => Tx i, 0, rfl, fun _ => by simp, (fun hb' => by rw [hb] at hb'; cases hb'), fun i x hx => ?_, h2⟩
      cases i with
      | zero => simp at hx; subst hx; exact ⟨hd, .inr ⟨rfl, hg, hop⟩, h0⟩
      | succ i =>
        simp at hx
        obtain ⟨k1, k2, k3⟩ := h1 i x hx
        refine ⟨k1, ?_, k3⟩
        rcases k2 with ⟨k4, k5⟩ | ⟨k4, k5⟩
        · exact .inl ⟨by omega, k5⟩
        · have := hqt rfl
          have := (List.getElem?_eq_some_iff.1 hx).1
          omega

/-- The state between two operations of a region that draws. -/
def SIA (κ : Nat) (P : Program) (N : Nat) (H H2 : List Blk) (q : Nat) (l : List Oper) (T : Tm) (vs : Nat → V) (B : Base) (w0 : World) (I0 : Nat → Prop) (ρ0 : List Nat) (f : Nat → Bool) (a : Act) (w : World) : Prop :=
  ∃ I ρ, ExtW w0 I0 ρ0 w I ρ ∧ Inv P w I ρ (bif f q then H2 else H) ∧ a.tmps.size = N ∧ (∀ s v, tl l T vs f s = some v → RelV P w I ρ v (a.tmps.getD s undef)) ∧ Marks κ B w I ρ a.defers

theorem draw_mainA (hk : DrawOk m l) (hm : m ≤ l.length) {q : Nat} (hq : q < m) {B : Base} {w0 : World} {I0 : Nat → Prop} {ρ0 : List Nat} {QX : Exit → Act → World → Prop} {Tx : Nat → Tm} (h0 : Tx 0 = T)
    (h1 : ∀ i o, i < m → l[i]? = some o → dstOk N o.dst = true ∧ ((i ≠ q ∧ YJ P N l.toArray o (Tx i) H (vs i) ∧ YJ P N l.toArray o (Tx i) H2 (vs i)) ∨ (i = q ∧ o.guard = none ∧ OpJ P N o (restr l.toArray o (Tx i)) H (vs i) H2)) ∧ Tx (i + 1) = setT (Tx i) o.dst (vs i))
    (hK : ∀ a w I ρ, ExtW w0 I0 ρ0 w I ρ → Inv P w I ρ H2 → TRel P w I ρ N (Tx m) a.tmps → Marks κ B w I ρ a.defers → wpListIn (Fr R) 0 P l.toArray QX (l.drop m) a w) :
    ∀ (fuel : Nat) (listed : Array Bool) (a : Act) (w : World), listed.toList.count false = fuel → listed.size = l.length → (∀ i o, l[i]? = some o → fl listed i = true → ∀ e ∈ o.after, Region.binds .any e = true → fl listed e.on = true) → (∀ i, m ≤ i → fl listed i = false) →
    SIA κ P N H H2 q l T vs B w0 I0 ρ0 (fl listed) a w → wpAnyIn (Fr R) 0 P .any l.toArray QX fuel listed a w := by
  intro fuel
  have hlk := lk_Tx (vs := vs) hk hm h0 (fun i o hi ho => (h1 i o hi ho).2.2)
  have done : ∀ (fuel : Nat) (listed : Array Bool) (a : Act) (w : World), listed.toList.count false = fuel → listed.size = l.length → (∀ i, m ≤ i → fl listed i = false) → (∀ i, i < m → fl listed i = true) → SIA κ P N H H2 q l T vs B w0 I0 ρ0 (fl listed) a w → wpAnyIn (Fr R) 0 P .any l.toArray QX fuel listed a w := by
    intro fuel listed a w hcnt hsz htl hall hsi
    obtain ⟨I, ρ, he, hi, hs, hrel, hmk⟩ := hsi
    rw [hall q hq] at hi
    have hi : Inv P w I ρ H2 := hi
    have hfl : ∀ i, fl listed i = decide (i < m) := fun i => by
      by_cases h : i < m
      · rw [hall i h]; simp [h]
      · rw [htl i (by omega)]; simp [h]
    have hcount : fuel + m = l.length := by
      have gen : ∀ (bs : List Bool) (k : Nat), k ≤ bs.length → (∀ i b, bs[i]? = some b → b = decide (i < k)) → bs.count false + k = bs.length := by
        intro bs
        induction bs with
        | nil => intro k hk _; simp at hk; simp [hk]
        | cons b bs ih =>
          intro k hk hb
          have hb0 := hb 0 b rfl
          cases k with
          | zero =>
            have := ih 0 (by omega) (fun i c hc => by have := hb (i + 1) c (by simpa using hc); simpa using this)
            simp at hb0
            subst hb0
            simp at this ⊢
            omega
          | succ k =>
            have := ih k (by simpa using hk) (fun i c hc => by have := hb (i + 1) c (by simpa using hc); simpa using this)
            simp at hb0
            subst hb0
            simp at this ⊢
            omega
      have := gen listed.toList m (by simpa [hsz] using hm) (fun i b hb => by
        have := hfl i
        unfold fl at this
        simp at hb
        rw [← this]
        simp [hb])
      rw [hcnt] at this
      simpa [hsz] using this
    refine draw_tail hk fuel m listed a w hcount (Nat.le_refl _) hsz (fun i _ => hfl i) (hK a w I ρ he hi ⟨hs, fun s v hv => hrel s v ?_⟩ hmk)
    rw [← hv, hlk m (Nat.le_refl _)]
    exact tl_congr hk fun j o hj hd => hfl j
  induction fuel with
  | zero =>
    intro listed a w hcnt hsz hcl htl hsi
    refine done 0 listed a w hcnt hsz htl (fun i hi => ?_) hsi
    have hlt : i < listed.size := by omega
    have h2 := List.count_eq_zero.1 hcnt
    unfold fl
    cases h3 : listed[i] with
    | true => simp [hlt, h3]
    | false => exact absurd (by rw [← h3]; exact Array.mem_toList_iff.2 (Array.getElem_mem hlt)) h2
  | succ fuel ih =>
    intro listed a w hcnt hsz hcl htl hsi
    by_cases hall : ∀ i, i < m → fl listed i = true
    · exact done (fuel + 1) listed a w hcnt hsz htl hall hsi
    · obtain ⟨i0, hi0, hmin⟩ : ∃ i0, (i0 < m ∧ fl listed i0 = false) ∧ ∀ j, j < i0 → fl listed j = true := by
        have hex : ∃ i, i < m ∧ fl listed i = false := by
          refine Classical.byContradiction fun hno => hall fun i hi => ?_
          cases h : fl listed i with
          | true => rfl
          | false => exact absurd ⟨i, hi, h⟩ hno
        obtain ⟨k, ⟨h3, h4⟩, h5⟩ := exists_least _ hex
        refine ⟨k, ⟨h3, h4⟩, fun j hj => ?_⟩
        cases h : fl listed j with
        | true => rfl
        | false => have := h5 j ⟨by omega, h⟩; omega
      have ho0 : l[i0]? = some (l[i0]'(by omega)) := List.getElem?_eq_getElem _
      have hr0 : i0 ∈ Region.ready .any l.toArray listed := by
        refine mem_ready.2 ⟨?_, (l[i0]'(by omega)), by rw [List.getElem?_toArray]; exact ho0, fun e he hb => hmin e.on (hk.back i0 _ ho0 e he hb)⟩
        have := hi0.2
        unfold fl at this
        have hlt : i0 < listed.size := by omega
        simp [hlt] at this ⊢
        exact this
      refine ⟨(fun h => by rw [h] at hr0; cases hr0), fun i hi => ?_⟩
      obtain ⟨h3, o, ho', hev⟩ := mem_ready.1 hi
      have ho : l[i]? = some o := by simpa using ho'
      have hilt := lt_of_get ho
      have hcl' : ∀ j oj, l[j]? = some oj → (decide (j = i) || fl listed j) = true → ∀ e ∈ oj.after, Region.binds .any e = true → (decide (e.on = i) || fl listed e.on) = true := fun j oj hj hfj e he hb => by
        simp only [Bool.or_eq_true, decide_eq_true_eq] at hfj ⊢
        rcases hfj with rfl | hfj
        · rw [ho] at hj; cases hj
          exact .inr (hev e he hb)
        · exact .inr (hcl j oj hj hfj e he hb)
      have him : i < m := by
        rcases Nat.lt_or_ge i m with h | h
        · exact h
        · have := hk.tail (fun j => decide (j = i) || fl listed j) hcl' i h hilt (by simp) i0 (by omega)
          have hne : ¬ i0 = i := by omega
          simp [hne, hi0.2] at this
      have hnl : fl listed i = false := by
        have hlt : i < listed.size := by omega
        unfold fl
        simp [hlt] at h3 ⊢
        exact h3
      obtain ⟨hdst, hy, _⟩ := h1 i o him ho
      obtain ⟨I, ρ, he, hinv, hs, hrel, hmk⟩ := hsi
      have hlook : ∀ s v, lk (restr l.toArray o (Tx i)) s = some v → RelV P w I ρ v (a.tmps.getD s undef) := by
        intro s v hv
        unfold restr at hv
        rw [lk_filterMap] at hv
        split at hv
        · rename_i hs'
          rw [hlk i (by omega)] at hv
          refine hrel s v ?_
          rw [← hv]
          refine tl_congr hk fun j oj hj hd => ?_
          by_cases hji : j = i
          · subst hji; rw [hnl]; simp
          · obtain ⟨k1, k2⟩ := hk.look (fun j => decide (j = i) || fl listed j) hcl' i j o oj s ho hj hs' hd (Ne.symm hji)
            rcases Nat.lt_trichotomy j i with h | h | h
            · have := k1 h (by simp)
              simp [hji] at this
              simp [this, h]
            · exact absurd h hji
            · have hkf := hk.look (fl listed) hcl i j o oj s ho hj hs' hd (Ne.symm hji)
              cases hfj : fl listed j with
              | false => simp; omega
              | true => have := hkf.2 h hfj; rw [hnl] at this; cases this
        · cases hv
      have htr : TRel P w I ρ N (restr l.toArray o (Tx i)) a.tmps := ⟨hs, hlook⟩
      have next : ∀ u w' I' ρ', Ext w I ρ w' I' ρ' → Inv P w' I' ρ' (bif fl (listed.setIfInBounds i true) q then H2 else H) → RelV P w' I' ρ' (vs i) u → wpAnyIn (Fr R) 0 P .any l.toArray QX fuel (listed.setIfInBounds i true) (a.put o.dst u) w' := by
        intro u w' I' ρ' he' hinv' hu
        refine ih (listed.setIfInBounds i true) (a.put o.dst u) w' ?_ (by simp [hsz]) ?_ ?_ ?_
        · have hlt : i < listed.size := by omega
          have h5 : listed.toList[i]? = some false := by
            unfold fl at hnl
            simp [hlt] at hnl ⊢
            exact hnl
          have := count_set listed.toList i h5
          rw [Array.toList_setIfInBounds]
          omega
        · intro j oj hj hfj e hee hb
          rw [fl_set (by omega)] at hfj ⊢
          exact hcl' j oj hj hfj e hee hb
        · intro j hj
          rw [fl_set (by omega), htl j hj]
          have : ¬ j = i := by omega
          simp [this]
        · refine ⟨I', ρ', he.trans he'.w, hinv', by cases o.dst <;> simp [Act.put, hs], fun s v hv => ?_, (hmk.ext he').put⟩
          cases hd : o.dst with
          | none =>
            have e1 : tl l T vs (fl (listed.setIfInBounds i true)) s = tl l T vs (fl listed) s := tl_congr hk fun j oj hj hdj => by
              rw [fl_set (by omega)]
              have : j ≠ i := fun e => by
                subst e
                rw [ho] at hj; cases hj
                rw [hd] at hdj; cases hdj
              simp [this]
            rw [e1] at hv
            exact (hrel s v hv).ext he'
          | some d =>
            have hlt : d < N := by
              rw [hd] at hdst
              simpa [dstOk, Nat.blt, Nat.lt_iff_add_one_le] using hdst
            by_cases hsd : d = s
            · subst hsd
              have e1 : tl l T vs (fl (listed.setIfInBounds i true)) d = some (vs i) := tl_some hk ho (by rw [fl_set (by omega)]; simp) hd
              rw [e1] at hv
              cases hv
              have h6 : d < a.tmps.size := by rw [hs]; exact hlt
              simpa [Act.put, h6] using hu
            · have e1 : tl l T vs (fl (listed.setIfInBounds i true)) s = tl l T vs (fl listed) s := tl_congr hk fun j oj hj hdj => by
                rw [fl_set (by omega)]
                have : j ≠ i := fun e => by
                  subst e
                  rw [ho] at hj; cases hj
                  rw [hd] at hdj; cases hdj
                  exact hsd rfl
                simp [this]
              rw [e1] at hv
              have := (hrel s v hv).ext he'
              simpa [Act.put, hsd] using this
      have step : ∀ (H0 : List Blk), Inv P w I ρ H0 → (∀ u w' I' ρ', Ext w I ρ w' I' ρ' → Inv P w' I' ρ' H0 → RelV P w' I' ρ' (vs i) u → wpAnyIn (Fr R) 0 P .any l.toArray QX fuel (listed.setIfInBounds i true) (a.put o.dst u) w') → YJ P N l.toArray o (Tx i) H0 (vs i) →
          wpOpIn (Fr R) 0 P l.toArray QX i (wpAnyIn (Fr R) 0 P .any l.toArray QX fuel (listed.setIfInBounds i true)) a w := by
        intro H0 hinv next hy
        unfold wpOpIn
        simp only [ho']
        rcases hy with ⟨hg, hop⟩ | ⟨j, want, s, c, x, v', hg, hsl, hsN, hb, hc, hv, hop⟩
        · simp only [Region.wanted, hg, if_true]
          exact hop R w I ρ a hinv htr _ _ next
        · have hyl := yielded_of hsl htr hsN hb hc
          simp only [Region.wanted, hg, hyl]
          cases c with
          | true =>
            simp only [if_true]
            obtain ⟨T2, hsub, hop⟩ := hop rfl
            exact hop R w I ρ a hinv (htr.subG hsub) _ _ fun u w' I' ρ' he' hi' hu => next u w' I' ρ' he' hi' (by rw [hv]; exact ⟨fun _ => hu, (fun h => by cases h)⟩)
          | false =>
            simp only [Bool.false_eq_true, if_false]
            exact ⟨about_wide, next undef w I ρ (Ext.refl _ _ _) hinv (by rw [hv]; exact ⟨(fun h => by cases h), fun _ => rfl⟩)⟩
      rcases hy with ⟨hiq, y1, y2⟩ | ⟨hiq, hg, hop⟩
      · have e : fl (listed.setIfInBounds i true) q = fl listed q := by
          rw [fl_set (by omega)]
          simp [Ne.symm hiq]
        rw [e] at next
        cases hfq : fl listed q with
        | true =>
          rw [hfq] at next hinv
          exact step H2 hinv next y2
        | false =>
          rw [hfq] at next hinv
          exact step H hinv next y1
      · subst hiq
        rw [hnl] at hinv
        rw [show fl (listed.setIfInBounds i true) i = true by rw [fl_set (by omega)]; simp] at next
        unfold wpOpIn
        simp only [ho']
        simp only [Region.wanted, hg, if_true]
        exact hop R w I ρ a hinv htr _ _ next

/-- **A region that draws its order**, by one pass in the order of the text: the first m operations leave the own blocks alone, but for one that lays a block; the others are forced to come behind them, in their order. -/
theorem AWp.regionDrawA {id : Nat} (m : Nat) (blk : Blk) (hmx : P.follows .mixedOrders = true) (hk : drawOk m l = true) (hm : m ≤ l.length) (h : AQuietA P N l.toArray H (H ++ [blk]) (fun T' => AList P R N κ l.toArray (l.drop m) Q T' (H ++ [blk])) false (l.take m) T) : AWp P R N κ (.region id l.toArray true) Q T H := by
  intro B w I ρ a hi ht hmk
  obtain ⟨vs, Tx, q, h0, hqf, _, h1, h2⟩ := AQuietA.vals h
  have hq : q < m := by have := hqf rfl; simp at this; omega
  have hlen : (l.take m).length = m := by simp; omega
  rw [hlen] at h2
  refine wpIn_region_any hmx ?_
  have hi' : Inv P w.drew I ρ H := hi.drew
  refine draw_mainA (κ := κ) (DrawOk.of hk) hm hq (B := B) (w0 := w) (I0 := I) (ρ0 := ρ) h0 (fun i o him ho => h1 i o (by rw [List.getElem?_take, if_pos him]; exact ho)) ?_ _ _ a w.drew (by simp) (by simp) ?_ ?_ ?_
  · intro a' w' I' ρ' he hi2 ht2 hm2
    exact h2 _ B w' I' ρ' a' hi2 ht2 hm2 fun e a2 w2 q => QC.ext he q
  · intro i o ho hf
    have hlt := lt_of_get ho
    simp [fl, hlt] at hf
  · intro i _
    unfold fl
    by_cases hlt : i < l.length <;> simp [hlt]
  · have e0 : fl (Array.replicate l.length false) q = false := by
      unfold fl
      by_cases hlt : q < l.length <;> simp [hlt]
    refine ⟨I, ρ, Ext.drew.w, by simpa [e0] using hi', ht.size, fun s v hv => ?_, hmk.ext Ext.drew⟩
    rw [tl_none (fun j o hj hf => by
      unfold fl at hf
      by_cases hlt : j < l.length <;> simp [hlt] at hf)] at hv
    exact (ht.at_ s v hv).ext (Ext.drew (w := w) (I := I) (ρ := ρ))
end
end
end Go.AF
