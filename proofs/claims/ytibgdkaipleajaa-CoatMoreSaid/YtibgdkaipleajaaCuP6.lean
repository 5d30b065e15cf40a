/-
  Chapter 7: with more racks, a shorter dip, or what dries faster, no dip begins later; a greater Late changes nothing. No program in sight.
-/
import Derived.Test.YtibgdkaipleajaaCuP5
section
set_option linter.unusedVariables false
set_option linter.unusedSimpArgs false
namespace Go.Proofs.Ytibgdkaipleajaa
open Go.AF
theorem cotB_of {b : Cot} (h1 : 0 < b.dry.length) (h2 : 0 ≤ b.late ∧ b.late ≤ 1000) (h3 : ∀ s ∈ b.dry, 0 ≤ s.lo ∧ s.lo ≤ s.hi ∧ s.hi ≤ 1000) : cotB b = false := by
  unfold cotB
  have e1 : decide ((b.dry.length : Int) = 0) = false := decide_eq_false (by omega)
  have e2 : inB b.late 0 1000 = true := by unfold inB; rw [decide_eq_true h2.1, decide_eq_true h2.2]; rfl
  have e3 : b.dry.any dryB = false := by
    rw [List.any_eq_false]
    intro s hs
    have h := h3 s hs
    unfold dryB
    rw [decide_eq_false (by omega), decide_eq_false (by omega), decide_eq_false (by omega)]
    decide
  rw [e1, e2, e3]; rfl
theorem pnt_of_ok {p : Pnt} (h : Ok p) : pntB p = true := by
  unfold pntB inB
  have e : p.bs.any cotB = false := by
    rw [List.any_eq_false]
    intro b hb
    rw [cotB_of (h.some b hb) (h.late b hb) (h.dry b hb)]
    decide
  have h1 := h.dip
  have h2 := h.racks
  have h3 := h.n
  have h4 := h.all
  rw [e, decide_eq_true h1.1, decide_eq_true h1.2, decide_eq_true h2.1, decide_eq_true h2.2, decide_eq_true (show (1 : Int) ≤ (p.bs.length : Int) by omega), decide_eq_true (show (p.bs.length : Int) ≤ 4 by omega), decide_eq_true (show (coats p : Int) ≤ 9 by omega)]
  rfl
theorem sumD_eq {a b : List Cot} : ∀ k, (∀ j, j < k → (cot a j).dry.length = (cot b j).dry.length) → sumD a k = sumD b k
  | 0, _ => rfl
  | k + 1, h => by
    have ih := sumD_eq k fun j hj => h j (by omega)
    unfold sumD
    rw [ih, h k (by omega)]
/-- A shop that dries no slower, with no longer dip and no fewer racks. -/
structure Dom (p q : Pnt) : Prop where
  ok : Ok q
  dip : q.dip ≤ p.dip
  racks : p.racks ≤ q.racks
  n : q.bs.length = p.bs.length
  len : ∀ i, (cot q.bs i).dry.length = (cot p.bs i).dry.length
  hi : ∀ i j, j < (cot p.bs i).dry.length → (spt (cot q.bs i).dry j).hi ≤ (spt (cot p.bs i).dry j).hi
theorem Dom.coats {p q : Pnt} (h : Dom p q) : coats q = coats p := by
  unfold Go.Proofs.Ytibgdkaipleajaa.coats
  rw [h.n]
  exact sumD_eq _ fun j _ => h.len j
structure DomS (δ : Int) (S T : Shp) : Prop where
  fr : T.fr ≤ S.fr
  many : ∀ k, (T.had k).many = (S.had k).many
  surely : ∀ k, 0 < (S.had k).many → (T.had k).surely + δ ≤ (S.had k).surely
theorem dom_time {p q : Pnt} (hp : Ok p) (h : Dom p q) {S T : Shp} (hS : DomS (p.dip - q.dip) S T) (b : Nat) : timeN q T b ≤ timeN p S b := by
  refine Classical.byContradiction fun hc => ?_
  have hd := h.dip
  have h1 : hourN T b ≤ hourN S b := by
    unfold hourN
    rw [hS.many b]
    have h2 := hS.fr
    split
    · have := hS.surely b (by omega); omega
    · exact h2
  have h2 := hour_le hp S b
  have h3 := time_least h.ok T b (h := timeN p S b) (by omega) (by omega)
  have h4 := time_free hp S b
  have h5 : ((hangL q T (b : Int) (timeN p S b + q.dip)).length : Int) ≤ ((hangL p S (b : Int) (timeN p S b + p.dip)).length : Int) := by
    unfold hangL
    rw [h.n]
    have e1 : cntB (fun k => hangB T (b : Int) (timeN p S b + q.dip) k) p.bs.length = ((hangF T (b : Int) (timeN p S b + q.dip) p.bs.length).length : Int) := hang_cnt (p := p) (fun _ _ => rfl) _ (Nat.le_refl _)
    have e2 : cntB (fun k => hangB S (b : Int) (timeN p S b + p.dip) k) p.bs.length = ((hangF S (b : Int) (timeN p S b + p.dip) p.bs.length).length : Int) := hang_cnt (p := p) (fun _ _ => rfl) _ (Nat.le_refl _)
    rw [← e1, ← e2]
    refine cntB_mono _ fun k _ hk => ?_
    unfold hangB at hk ⊢
    rw [Bool.and_eq_true, Bool.and_eq_true] at hk ⊢
    have a1 := of_decide_eq_true hk.1.2
    have a2 := of_decide_eq_true hk.2
    have a3 := hS.many k
    have a4 := hS.surely k (by omega)
    exact ⟨⟨hk.1.1, decide_eq_true (by omega)⟩, decide_eq_true (by omega)⟩
  have h6 := h.racks
  omega
theorem dom_st {p q : Pnt} (hp : Ok p) (h : Dom p q) {o : List Int} : ∀ i, NoErr p o i → NoErr q o i → DomS (p.dip - q.dip) (stN p o i) (stN q o i) ∧ ∀ j, j < i → hrI q o j ≤ hrI p o j
  | 0, _, _ => ⟨⟨Int.le_refl _, fun _ => rfl, fun k hk => absurd hk (by show ¬ 0 < 0; omega)⟩, fun j hj => absurd hj (by omega)⟩
  | i + 1, hE, hE2 => by
    obtain ⟨ih, ih2⟩ := dom_st hp h i (fun j hj => hE j (by omega)) fun j hj => hE2 j (by omega)
    obtain ⟨b, hb, hbl, hm, hr, hs, _⟩ := st_S (hE i (by omega))
    obtain ⟨b', hb', hbl', hm', hr', hs', _⟩ := st_S (hE2 i (by omega))
    obtain rfl : b' = b := by omega
    have ht := dom_time hp h ih b'
    have hd := h.dip
    refine ⟨⟨?_, fun k => ?_, fun k hk => ?_⟩, fun j hj => ?_⟩
    · rw [hs, hs']
      show timeN q (stN q o i) b' + q.dip ≤ timeN p (stN p o i) b' + p.dip
      omega
    · rw [hs, hs']
      show (if k = b' then hngN q (stN q o i) b' (timeN q (stN q o i) b') else (stN q o i).had k).many = (if k = b' then hngN p (stN p o i) b' (timeN p (stN p o i) b') else (stN p o i).had k).many
      by_cases e : k = b'
      · rw [if_pos e, if_pos e]
        show ((stN q o i).had b').many + 1 = ((stN p o i).had b').many + 1
        rw [ih.many]
      · rw [if_neg e, if_neg e]
        exact ih.many k
    · rw [hs] at hk
      rw [hs, hs']
      revert hk
      show 0 < (if k = b' then hngN p (stN p o i) b' (timeN p (stN p o i) b') else (stN p o i).had k).many → (if k = b' then hngN q (stN q o i) b' (timeN q (stN q o i) b') else (stN q o i).had k).surely + (p.dip - q.dip) ≤ (if k = b' then hngN p (stN p o i) b' (timeN p (stN p o i) b') else (stN p o i).had k).surely
      by_cases e : k = b'
      · simp only [if_pos e]
        intro _
        show timeN q (stN q o i) b' + q.dip + (spt (cot q.bs b').dry ((stN q o i).had b').many).hi + (p.dip - q.dip) ≤ timeN p (stN p o i) b' + p.dip + (spt (cot p.bs b').dry ((stN p o i).had b').many).hi
        rw [ih.many]
        have := h.hi b' _ hm
        omega
      · simp only [if_neg e]
        exact ih.surely k
    · rcases Nat.lt_succ_iff_lt_or_eq.1 hj with h1 | rfl
      · exact ih2 j h1
      · rw [hr, hr']; exact ht
theorem dom_V {p q : Pnt} (h : Dom p q) {o : List Int} (hV : OrdV p o) : OrdV q o := fun j hj => by
  obtain ⟨k, h1, h2, h3⟩ := hV j hj
  exact ⟨k, h1, by rw [h.n]; exact h2, by rw [h.len]; exact h3⟩
/-- What comes of the same order in a better shop. -/
theorem dom_times {p q : Pnt} (h : Dom p q) {o : List Int} (h0 : (timesR p o).2.2 = 0) (hV : OrdV p o) : ((timesR q o).2.2 = 11 ∧ (timesR q o).1 = []) ∨ (timesR q o = (hrs q o o.length, (o.length : Int), 0) ∧ ∀ j, j < o.length → nt (hrs q o o.length) j ≤ nt (hrs p o o.length) j) := by
  obtain ⟨hT, hall, hco, _⟩ := times_0 h0
  have hp := pnt_ok hT
  by_cases hq : (timesR q o).2.2 = 0
  · right
    obtain ⟨_, hall2, _, et⟩ := times_0 hq
    refine ⟨et, fun j hj => ?_⟩
    rw [hrs_get q o hj, hrs_get p o hj]
    exact (dom_st hp h o.length hall hall2).2 j hj
  · left
    obtain ⟨i, _, e⟩ := times_11 (pnt_of_ok h.ok) (dom_V h hV) (by rw [h.coats]; exact hco) hq
    rw [e]
    exact ⟨rfl, rfl⟩
def pR (p : Pnt) : Pnt := ⟨p.dip, min 4 (p.racks + 1), p.bs⟩
def pS (p : Pnt) (w : Nat) : Pnt := ⟨max 1 (p.dip - ((w % 4 : Nat) : Int)), p.racks, p.bs⟩
def fastS (w : Nat) (s : Spn) : Spn := ⟨s.lo, max s.lo (s.hi - ((w % 9 : Nat) : Int))⟩
def fastB (w : Nat) (b : Cot) : Cot := ⟨b.dry.map (fastS w), b.late⟩
def lateB (w : Nat) (b : Cot) : Cot := ⟨b.dry, min 1000 (b.late + (w : Int))⟩
def pF (p : Pnt) (w : Nat) : Pnt := ⟨p.dip, p.racks, p.bs.map (fastB w)⟩
def pL (p : Pnt) (w : Nat) : Pnt := ⟨p.dip, p.racks, p.bs.map (lateB w)⟩
def vs3 (p : Pnt) (w : Nat) : List Pnt := [pR p, pS p w, pF p w]
def ptn (L : List Pnt) (i : Nat) : Pnt := L.getD i ⟨0, 0, []⟩
theorem ptn_get {L : List Pnt} : ∀ k (h : k < L.length), L[k] = ptn L k := fun k h => by
  unfold ptn
  rw [List.getD_eq_getElem?_getD, List.getElem?_eq_getElem h]; rfl
theorem cot_map (f : Cot → Cot) {l : List Cot} {i : Nat} (h : i < l.length) : cot (l.map f) i = f (cot l i) := by
  unfold cot
  rw [List.getD_eq_getElem?_getD, List.getD_eq_getElem?_getD, List.getElem?_map, List.getElem?_eq_getElem h]; rfl
theorem cot_out {l : List Cot} {i : Nat} (h : l.length ≤ i) : cot l i = ⟨[], 0⟩ := by
  unfold cot
  rw [List.getD_eq_getElem?_getD, List.getElem?_eq_none h]; rfl
theorem spt_map (f : Spn → Spn) {l : List Spn} {i : Nat} (h : i < l.length) : spt (l.map f) i = f (spt l i) := by
  unfold spt
  rw [List.getD_eq_getElem?_getD, List.getD_eq_getElem?_getD, List.getElem?_map, List.getElem?_eq_getElem h]; rfl
theorem dom_R {p : Pnt} (hp : Ok p) : Dom p (pR p) :=
  ⟨⟨hp.dip, by have := hp.racks; show 1 ≤ min 4 (p.racks + 1) ∧ min 4 (p.racks + 1) ≤ 4; omega, hp.n, hp.late, hp.some, hp.dry, hp.all⟩, Int.le_refl _, by have := hp.racks; show p.racks ≤ min 4 (p.racks + 1); omega, rfl, fun _ => rfl, fun _ _ _ => Int.le_refl _⟩
theorem dom_S {p : Pnt} (hp : Ok p) (w : Nat) : Dom p (pS p w) :=
  ⟨⟨by have := hp.dip; show 1 ≤ max 1 (p.dip - ((w % 4 : Nat) : Int)) ∧ max 1 (p.dip - ((w % 4 : Nat) : Int)) ≤ 24; omega, hp.racks, hp.n, hp.late, hp.some, hp.dry, hp.all⟩, by have := hp.dip; show max 1 (p.dip - ((w % 4 : Nat) : Int)) ≤ p.dip; omega, Int.le_refl _, rfl, fun _ => rfl, fun _ _ _ => Int.le_refl _⟩
theorem fast_len (p : Pnt) (w : Nat) (i : Nat) : (cot (p.bs.map (fastB w)) i).dry.length = (cot p.bs i).dry.length := by
  rcases Nat.lt_or_ge i p.bs.length with h | h
  · rw [cot_map _ h]
    show ((cot p.bs i).dry.map (fastS w)).length = _
    rw [List.length_map]
  · rw [cot_out h, cot_out (by rw [List.length_map]; exact h)]
theorem late_len (p : Pnt) (w : Nat) (i : Nat) : (cot (p.bs.map (lateB w)) i).dry.length = (cot p.bs i).dry.length := by
  rcases Nat.lt_or_ge i p.bs.length with h | h
  · rw [cot_map _ h]; rfl
  · rw [cot_out h, cot_out (by rw [List.length_map]; exact h)]
theorem dom_F {p : Pnt} (hp : Ok p) (w : Nat) : Dom p (pF p w) := by
  have hall : coats (pF p w) = coats p := by
    unfold coats pF
    dsimp only
    rw [List.length_map]
    exact sumD_eq _ fun j _ => fast_len p w j
  refine ⟨⟨hp.dip, hp.racks, by show 1 ≤ (p.bs.map _).length ∧ (p.bs.map _).length ≤ 4; rw [List.length_map]; exact hp.n, fun b hb => ?_, fun b hb => ?_, fun b hb s hs => ?_, by rw [hall]; exact hp.all⟩, Int.le_refl _, Int.le_refl _, List.length_map .., fun i => fast_len p w i, fun i j hj => ?_⟩
  · obtain ⟨c, hc, rfl⟩ := List.mem_map.1 hb
    exact hp.late c hc
  · obtain ⟨c, hc, rfl⟩ := List.mem_map.1 hb
    show 0 < (c.dry.map _).length
    rw [List.length_map]
    exact hp.some c hc
  · obtain ⟨c, hc, rfl⟩ := List.mem_map.1 hb
    obtain ⟨t, ht, rfl⟩ := List.mem_map.1 hs
    have := hp.dry c hc t ht
    show 0 ≤ t.lo ∧ t.lo ≤ max t.lo (t.hi - ((w % 9 : Nat) : Int)) ∧ max t.lo (t.hi - ((w % 9 : Nat) : Int)) ≤ 1000
    omega
  · rcases Nat.lt_or_ge i p.bs.length with h | h
    · have := hp.dry _ (cot_mem h) _ (spt_mem hj)
      show (spt (cot (p.bs.map (fastB w)) i).dry j).hi ≤ _
      rw [cot_map _ h]
      show (spt ((cot p.bs i).dry.map (fastS w)) j).hi ≤ _
      rw [spt_map _ hj]
      show max _ _ ≤ _
      omega
    · rw [cot_out h] at hj
      cases hj
theorem vs3_dom {p : Pnt} (hp : Ok p) (w : Nat) : ∀ j, j < 3 → Dom p (ptn (vs3 p w) j)
  | 0, _ => dom_R hp
  | 1, _ => dom_S hp w
  | 2, _ => dom_F hp w
  | j + 3, h => absurd h (by omega)
/-! ### A greater Late -/
theorem lateOk {p : Pnt} (hp : Ok p) (w : Nat) : Ok (pL p w) := by
  have hall : coats (pL p w) = coats p := by
    unfold coats pL
    dsimp only
    rw [List.length_map]
    exact sumD_eq _ fun j _ => late_len p w j
  refine ⟨hp.dip, hp.racks, by show 1 ≤ (p.bs.map _).length ∧ (p.bs.map _).length ≤ 4; rw [List.length_map]; exact hp.n, fun b hb => ?_, fun b hb => ?_, fun b hb s hs => ?_, by rw [hall]; exact hp.all⟩
  · obtain ⟨c, hc, rfl⟩ := List.mem_map.1 hb
    have := hp.late c hc
    show 0 ≤ min 1000 (c.late + (w : Int)) ∧ min 1000 (c.late + (w : Int)) ≤ 1000
    omega
  · obtain ⟨c, hc, rfl⟩ := List.mem_map.1 hb
    exact hp.some c hc
  · obtain ⟨c, hc, rfl⟩ := List.mem_map.1 hb
    exact hp.dry c hc s hs
theorem late_coats (p : Pnt) (w : Nat) : coats (pL p w) = coats p := by
  unfold coats pL
  dsimp only
  rw [List.length_map]
  exact sumD_eq _ fun j _ => late_len p w j
theorem late_next {p : Pnt} (hp : Ok p) (w : Nat) {S : Shp} {b : Int} (h : (nextN p S b).2.2 = 0) : nextN (pL p w) S b = nextN p S b := by
  obtain ⟨k, rfl, hk, hm, hl, e⟩ := next_0 h
  rw [e]
  have ec : cot (pL p w).bs k = lateB w (cot p.bs k) := cot_map _ hk
  have hlt := hp.late _ (cot_mem hk)
  have en : (pL p w).bs.length = p.bs.length := List.length_map ..
  have hmy : mayE (pL p w) S (k : Int) = 0 := by
    rw [may_9 (by rw [en]; exact hk), ec, if_neg (by show ¬ _ ≥ (cot p.bs k).dry.length; omega)]
  have et : timeN (pL p w) S k = timeN p S k := by
    unfold timeN hangL
    rw [en]
    rfl
  have ed : dipN (pL p w) S k (timeN p S k) = dipN p S k (timeN p S k) := by
    unfold dipN hngN
    rw [ec]
    rfl
  have hnl : ¬ isLateB (pL p w) S (k : Int) (timeN (pL p w) S k) = true := fun hx => hl (by
    rw [et] at hx
    unfold isLateB at hx ⊢
    rw [Bool.and_eq_true] at hx ⊢
    refine ⟨hx.1, decide_eq_true ?_⟩
    have h2 := of_decide_eq_true hx.2
    have h3 : timeN p S k > (S.had k).could + (cot (pL p w).bs k).late := h2
    rw [ec] at h3
    have h4 : timeN p S k > (S.had k).could + min 1000 ((cot p.bs k).late + (w : Int)) := h3
    show timeN p S k > (S.had k).could + (cot p.bs k).late
    omega)
  unfold nextN
  rw [if_neg (not_not_intro hmy)]
  show (if isLateB (pL p w) S (k : Int) (timeN (pL p w) S k) = true then _ else (dipN (pL p w) S k (timeN (pL p w) S k), timeN (pL p w) S k, (0 : Int))) = _
  rw [if_neg hnl, et, ed]
theorem late_st {p : Pnt} (hp : Ok p) (w : Nat) {o : List Int} : ∀ i, NoErr p o i → stN (pL p w) o i = stN p o i ∧ ∀ j, j < i → errI (pL p w) o j = 0 ∧ hrI (pL p w) o j = hrI p o j
  | 0, _ => ⟨rfl, fun j hj => absurd hj (by omega)⟩
  | i + 1, hE => by
    obtain ⟨e1, e2⟩ := late_st hp w i fun j hj => hE j (by omega)
    have h0 := hE i (by omega)
    have e3 := late_next hp w (S := stN p o i) (b := nt o i) h0
    refine ⟨?_, fun j hj => ?_⟩
    · show (nextN (pL p w) (stN (pL p w) o i) (nt o i)).1 = (nextN p (stN p o i) (nt o i)).1
      rw [e1, e3]
    · rcases Nat.lt_succ_iff_lt_or_eq.1 hj with h1 | rfl
      · exact e2 j h1
      · unfold errI hrI
        rw [e1, e3]
        exact ⟨h0, rfl⟩
theorem late_times {p : Pnt} {o : List Int} (w : Nat) (h0 : (timesR p o).2.2 = 0) : timesR (pL p w) o = (hrs p o o.length, (o.length : Int), 0) := by
  obtain ⟨hT, hall, hco, _⟩ := times_0 h0
  have hp := pnt_ok hT
  obtain ⟨_, e2⟩ := late_st hp w o.length hall
  rw [times_end (pnt_of_ok (lateOk hp w)) (fun j hj => (e2 j hj).1), late_coats, if_neg (by omega)]
  congr 1
  refine nt_ext (by rw [hrs_len, hrs_len]) fun j hj => ?_
  rw [hrs_len] at hj
  rw [hrs_get _ _ hj, hrs_get _ _ hj]
  exact (e2 j hj).2
/-! ### The batches, one after the other -/
def fastL (p : Pnt) (w g : Nat) : List Cot := (p.bs.take g).map (fastB w)
def lateL (p : Pnt) (w g : Nat) : List Cot := (p.bs.take g).map (lateB w)
theorem fastL_len (p : Pnt) (w : Nat) {g : Nat} (h : g ≤ p.bs.length) : (fastL p w g).length = g := by unfold fastL; rw [List.length_map, List.length_take]; omega
theorem lateL_len (p : Pnt) (w : Nat) {g : Nat} (h : g ≤ p.bs.length) : (lateL p w g).length = g := by unfold lateL; rw [List.length_map, List.length_take]; omega
theorem fastL_S (p : Pnt) (w : Nat) {g : Nat} (h : g < p.bs.length) : fastL p w (g + 1) = fastL p w g ++ [fastB w (cot p.bs g)] := by
  unfold fastL
  rw [← List.take_append_getElem h, List.map_append, cot_get g h]; rfl
theorem lateL_S (p : Pnt) (w : Nat) {g : Nat} (h : g < p.bs.length) : lateL p w (g + 1) = lateL p w g ++ [lateB w (cot p.bs g)] := by
  unfold lateL
  rw [← List.take_append_getElem h, List.map_append, cot_get g h]; rfl
theorem fastL_n (p : Pnt) (w : Nat) : fastL p w p.bs.length = p.bs.map (fastB w) := by unfold fastL; rw [List.take_length]
theorem lateL_n (p : Pnt) (w : Nat) : lateL p w p.bs.length = p.bs.map (lateB w) := by unfold lateL; rw [List.take_length]
def fstK (w : Nat) (d : List Spn) (k : Nat) : List Spn := (d.take k).map (fastS w) ++ d.drop k
theorem fstK_len (w : Nat) (d : List Spn) (k : Nat) : (fstK w d k).length = d.length := by
  unfold fstK
  rw [List.length_append, List.length_map, List.length_take, List.length_drop]; omega
theorem fstK_0 (w : Nat) (d : List Spn) : fstK w d 0 = d := rfl
theorem fstK_n (w : Nat) (d : List Spn) : fstK w d d.length = d.map (fastS w) := by unfold fstK; rw [List.take_length, List.drop_length, List.append_nil]
theorem fstK_at (w : Nat) {d : List Spn} {k : Nat} (h : k < d.length) : spt (fstK w d k) k = spt d k := by
  unfold fstK spt
  have hl : ((d.take k).map (fastS w)).length = k := by rw [List.length_map, List.length_take]; omega
  rw [List.getD_eq_getElem?_getD, List.getElem?_append_right (by omega), hl, Nat.sub_self, List.getElem?_drop, Nat.add_zero, List.getD_eq_getElem?_getD]
theorem fstK_set (w : Nat) {d : List Spn} {k : Nat} (h : k < d.length) : fstK w d (k + 1) = (fstK w d k).set k (fastS w (spt d k)) := by
  unfold fstK
  have hl : ((d.take k).map (fastS w)).length = k := by rw [List.length_map, List.length_take]; omega
  rw [List.set_append_right _ _ (by omega), hl, Nat.sub_self, List.drop_eq_getElem_cons h, ← List.take_append_getElem h, List.map_append, spt_get k h]
  simp
end Go.Proofs.Ytibgdkaipleajaa
end
