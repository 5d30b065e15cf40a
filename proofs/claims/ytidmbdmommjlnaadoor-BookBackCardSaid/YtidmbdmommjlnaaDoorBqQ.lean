/-
  Chapter 14: what is read is written as just the same bytes; how texts end.
-/
import Derived.Test.YtidmbdmommjlnaaDoorBqP
section
set_option linter.unusedVariables false
set_option linter.unusedSimpArgs false
namespace Go.Proofs.YtidmbdmommjlnaaDoor
open Go Go.AF
theorem opn_forms {α : Type} (rd : Bs → Option (List α)) (ok : List α → Bool) (val : List α → PV) {s : Bs} (hs : s.length ≤ 65536) : (∃ l, rd s = some l ∧ ok l = true ∧ opnP rd ok val s = (val l, 0)) ∨ opnP rd ok val s = (.nilSlice, 8) := by
  cases hr : rd s with
  | none => exact .inr (opn_no hs hr)
  | some l =>
    cases hk : ok l with
    | true => exact .inl ⟨l, rfl, hk, opn_ok hs hr hk⟩
    | false => exact .inr (opn_bad hs hr hk)
theorem wrR_of {l : List Rpt} (hl : l.length ≤ 20) (h : rptsB l = true) : wrR l = (rptsT l, 0) := wrR_yes (chk_ok (by omega) h)
theorem wrC_of {l : List Crd} (hl : l.length ≤ 40) (h : crdsB l = true) : wrC l = (crdsTT l ++ [sumB (crdsTT l)], 0) := wrC_yes (chk_ok (by omega) h)
theorem wrP_of {l : List Pck} (hl : l.length ≤ 30) (h : pcksB l = true) : wrP l = (pcksT l, 0) := wrP_yes (chk_ok (by omega) h)
theorem rptsB_n {l : List Rpt} (h : rptsB l = true) : ∀ r ∈ l, r.strokes.length ≤ bigN := fun r hr => Nat.le_trans (rptB_some (rise_all h (by decide) r hr).2.2.2).1 (by decide)
theorem pcksB_n {l : List Pck} (h : pcksB l = true) : ∀ p ∈ l, p.colours.length ≤ bigN := fun r hr => Nat.le_trans (pckB_some (rise_all h (by decide) r hr).2.2.2).2.2 (by decide)
/-- What ReadReports answers. -/
theorem opR_forms {s : Bs} (hs : s.length ≤ 65536) : ∃ v e n, opR s = (v, e) ∧ alen (.p v) = some n ∧ ((e = 0 ∧ ∃ l, v = rptsV l ∧ l.length ≤ 20 ∧ rptsB l = true ∧ s = rptsT l ∧ wrR l = (s, 0)) ∨ (e = 8 ∧ n = 0 ∧ v = .nilSlice)) := by
  rcases opn_forms (lstG rptR 20) rptsB rptsV hs with ⟨l, h1, h2, h3⟩ | h
  · obtain ⟨e1, e2, _⟩ := rpts_inv 20 s l h1
    exact ⟨_, _, l.length, h3, rfl, .inl ⟨rfl, l, rfl, e2, h2, e1, by rw [wrR_of e2 h2, e1]; rfl⟩⟩
  · exact ⟨_, _, 0, h, rfl, .inr ⟨rfl, rfl, rfl⟩⟩
theorem rdC_forms {s : Bs} (hs : s.length ≤ 65536) : ∃ v e n, rdC s = (v, e) ∧ alen (.p v) = some n ∧ ((e = 0 ∧ ∃ l, v = crdsV l ∧ l.length ≤ 40 ∧ crdsB l = true ∧ s = crdsTT l ++ [sumB (crdsTT l)] ∧ wrC l = (s, 0)) ∨ ((e = 8 ∨ e = 11) ∧ n = 0 ∧ v = .nilSlice)) := by
  rcases opn_forms crdsL crdsB crdsV hs with ⟨l, h1, h2, h3⟩ | h
  · obtain ⟨x, e1, e2⟩ := crds_inv h1
    have hE : opC s = (crdsV l, 0) := h3
    by_cases hx : sumB (s.take (s.length - 1)) = gt 0 s (s.length - 1)
    · have e3 : s = crdsTT l ++ [sumB (crdsTT l)] := by
        rw [e1, gt_last, show (crdsTT l ++ [x]).length - 1 = (crdsTT l).length by simp, List.take_left] at hx
        rw [e1, hx]
      exact ⟨_, _, l.length, rdC_ok (by rw [hE]) hE hx, rfl, .inl ⟨rfl, l, rfl, e2, h2, e3, by rw [wrC_of e2 h2, ← e3]⟩⟩
    · exact ⟨_, _, 0, rdC_no (by rw [hE]) hx, rfl, .inr ⟨.inr rfl, rfl, rfl⟩⟩
  · have hE : opC s = (.nilSlice, 8) := h
    exact ⟨_, _, 0, by rw [rdC_e (by rw [hE]; decide), hE], rfl, .inr ⟨.inl rfl, rfl, rfl⟩⟩
theorem rdP_forms {s : Bs} (hs : s.length ≤ 65536) : ∃ v e n, rdP s = (v, e) ∧ alen (.p v) = some n ∧ ((e = 0 ∧ ∃ l, v = pcksV l ∧ l.length ≤ 30 ∧ pcksB l = true ∧ s = pcksT l ∧ wrP l = (s, 0)) ∨ (e = 8 ∧ n = 0 ∧ v = .nilSlice)) := by
  rcases opn_forms (lstG pckR 30) pcksB pcksV hs with ⟨l, h1, h2, h3⟩ | h
  · have hE : opP s = (pcksV l, 0) := h3
    have hl : l.length ≤ 30 := (lstG_all (C := fun _ => True) (N := 65536) (fun r x q _ hx => ⟨trivial, pckR_len hx⟩) 30 s l hs h1).1
    have hw := wrP_of hl h2
    by_cases hx : (wrP l).1 = s
    · have e3 : s = pcksT l := by rw [hw] at hx; exact hx.symm
      exact ⟨_, _, l.length, rdP_ok (by rw [hE]) h1 hx, rfl, .inl ⟨rfl, l, rfl, hl, h2, e3, by rw [hw, ← e3]⟩⟩
    · exact ⟨_, _, 0, rdP_no (by rw [hE]) h1 hx, rfl, .inr ⟨rfl, rfl, rfl⟩⟩
  · have hE : opP s = (.nilSlice, 8) := h
    exact ⟨_, _, 0, by rw [rdP_e (by rw [hE]; decide), hE], rfl, .inr ⟨rfl, rfl, rfl⟩⟩
/-! ### How texts end -/
def endD (a : Bs) : Prop := ∃ u d, a = u ++ [d] ∧ digB d = true
def endN (a : Bs) : Prop := ∃ u d, a = u ++ [d] ++ [10] ∧ digB d = true
theorem endD_app (a : Bs) {b : Bs} (h : endD b) : endD (a ++ b) := by
  obtain ⟨u, d, rfl, h⟩ := h
  exact ⟨a ++ u, d, by rw [List.append_assoc], h⟩
theorem endN_app (a : Bs) {b : Bs} (h : endN b) : endN (a ++ b) := by
  obtain ⟨u, d, rfl, h⟩ := h
  exact ⟨a ++ u, d, by simp only [List.append_assoc], h⟩
theorem endN_of {a : Bs} (h : endD a) : endN (a ++ [10]) := by
  obtain ⟨u, d, rfl, h⟩ := h
  exact ⟨u, d, rfl, h⟩
theorem dec_end (u : Nat) : endD (Lib.decDigits u) := by
  by_cases h : u < 10
  · rw [dec_small h]; exact ⟨[], _, rfl, dg_dig h⟩
  · rw [dec_big (by omega)]; exact ⟨_, _, rfl, dg_dig (Nat.mod_lt _ (by decide))⟩
theorem itoa_end {n : Int} (h : 0 ≤ n) : endD (Lib.itoa n) := by rw [itoa_nat h]; exact dec_end _
theorem spn_end {s : Spn} (h : SpnR s) : endD (spnT s) := by
  rw [spnT_eq]
  split
  · rw [List.append_nil]; exact itoa_end h.1
  · exact endD_app _ (endD_app _ (itoa_end h.2.2.1))
theorem stk_end {s : Stk} (h : StkR s) : endN (stkT s) := by
  have := stkT_eq s []
  rw [List.append_nil] at this
  rw [this]
  exact endN_app _ (endN_app _ (endN_app _ (endN_of (spn_end h.2))))
theorem rptH_end {r : Rpt} (h : SpnR r.wear) : endN (rptH r) := by
  have := rptH_eq r []
  rw [List.append_nil] at this
  rw [this]
  exact endN_app _ (endN_app _ (endN_app _ (endN_app _ (endN_app _ (endN_of (spn_end h))))))
theorem flat_end {α : Type} (f : α → Bs) : ∀ (l : List α), (∀ x ∈ l, endN (f x)) → l ≠ [] → endN (l.flatMap f)
  | [], _, h => absurd rfl h
  | [x], h, _ => by rw [List.flatMap_cons, List.flatMap_nil, List.append_nil]; exact h x (by simp)
  | x :: y :: l, h, _ => by
    rw [List.flatMap_cons]
    exact endN_app _ (flat_end f (y :: l) (fun z hz => h z (by simp [hz])) (by simp))
theorem rpt_end {r : Rpt} (h : RptR r) : endN (rptT r) := by
  unfold rptT
  cases hs : r.strokes with
  | nil => rw [List.flatMap_nil, List.append_nil]; exact rptH_end h.2.2.1
  | cons x l => exact endN_app _ (flat_end stkT _ (fun s hs2 => stk_end (h.2.2.2 s (by rw [hs]; exact hs2))) (by simp))
theorem rpts_end {l : List Rpt} (h : rptsB l = true) (hn : rptsT l ≠ []) : endN (rptsT l) := by
  refine flat_end rptT l (fun x hx => ?_) (fun e => hn (by rw [e]; rfl))
  obtain ⟨_, h0, h1, h2⟩ := rise_all h (by decide) x hx
  exact rpt_end (rptB_R h2 h0 h1)
theorem itm_end1 {x : Itm} (h : CanI x) : endD (itmT x) := by
  obtain ⟨h0, h1, h2, h3, h4, _⟩ := h
  unfold itmT
  split
  · exact endD_app _ (endD_app _ (itoa_end (by omega)))
  · split
    · exact endD_app _ (endD_app _ (itoa_end (by omega)))
    · rw [List.append_nil]; exact endD_app _ (itoa_end h0)
theorem flat_endD {α : Type} (f : α → Bs) : ∀ (l : List α), (∀ x ∈ l, endD (f x)) → l ≠ [] → endD (l.flatMap f)
  | [], _, h => absurd rfl h
  | [x], h, _ => by rw [List.flatMap_cons, List.flatMap_nil, List.append_nil]; exact h x (by simp)
  | x :: y :: l, h, _ => by
    rw [List.flatMap_cons]
    exact endD_app _ (flat_endD f (y :: l) (fun z hz => h z (by simp [hz])) (by simp))
theorem pck_end {p : Pck} (h : pckB p = true) : endN (pckT p) := by
  obtain ⟨e1, e2⟩ := pck_items h
  have h2 := (pckB_some h).2.1
  unfold pckT itmsT
  refine endN_of (endD_app _ (flat_endD itmT _ (fun x hx => itm_end1 (e2 x hx)) (fun e => ?_)))
  rw [e] at e1
  rw [← e1] at h2
  exact absurd h2 (by decide)
theorem pcks_end {l : List Pck} (h : pcksB l = true) (hn : pcksT l ≠ []) : endN (pcksT l) :=
  flat_end pckT l (fun x hx => pck_end (pcks_R h x hx).2.2) (fun e => hn (by rw [e]; rfl))
theorem endN_last {a u : Bs} {d : UInt8} (h : endN a) (e : a = u ++ [d]) : d = 10 := by
  obtain ⟨u2, d2, h1, _⟩ := h
  rw [h1] at e
  have := (List.append_inj' e rfl).2
  cases this
  rfl
theorem endN_cut {a : Bs} (h : endN a) : ∃ u d, a.take (a.length - 1) = u ++ [d] ∧ d ≠ 10 := by
  obtain ⟨u, d, rfl, h⟩ := h
  refine ⟨u, d, ?_, fun e => by rw [e] at h; cases h⟩
  have e : (u ++ [d] ++ [(10 : UInt8)]).length - 1 = (u ++ [d]).length := by simp
  rw [e, List.take_left]
/-- What does not end with a line feed is no text. -/
theorem opR_no {t u : Bs} {d : UInt8} (ht : t.length ≤ 65536) (e : t = u ++ [d]) (hd : d ≠ 10) : opR t = (.nilSlice, 8) := by
  obtain ⟨v, e2, n, h1, _, ⟨h2, l, rfl, _, h4, h5, _⟩ | ⟨rfl, _, rfl⟩⟩ := opR_forms ht
  · exfalso
    have hn : rptsT l ≠ [] := by rw [← h5, e]; simp
    exact hd (endN_last (rpts_end h4 hn) (h5 ▸ e))
  · exact h1
theorem rdP_not {t u : Bs} {d : UInt8} (ht : t.length ≤ 65536) (e : t = u ++ [d]) (hd : d ≠ 10) : rdP t = (.nilSlice, 8) := by
  obtain ⟨v, e2, n, h1, _, ⟨h2, l, rfl, _, h4, h5, _⟩ | ⟨rfl, _, rfl⟩⟩ := rdP_forms ht
  · exfalso
    have hn : pcksT l ≠ [] := by rw [← h5, e]; simp
    exact hd (endN_last (pcks_end h4 hn) (h5 ▸ e))
  · exact h1
theorem just_cut {s : Bs} {m : UInt8} {v1 v3 : PV} {e1 e3 : Int} {n1 n3 : Nat} (hs : s.length ≤ 4000) (hne : s ≠ []) (hm : m ≠ 10)
    (f1 : (e1 = 0 ∧ ∃ l, v1 = rptsV l ∧ l.length ≤ 20 ∧ rptsB l = true ∧ s = rptsT l ∧ wrR l = (s, 0)) ∨ (e1 = 8 ∧ n1 = 0 ∧ v1 = .nilSlice)) (f3 : (e3 = 0 ∧ ∃ l, v3 = pcksV l ∧ l.length ≤ 30 ∧ pcksB l = true ∧ s = pcksT l ∧ wrP l = (s, 0)) ∨ (e3 = 8 ∧ n3 = 0 ∧ v3 = .nilSlice)) :
    ∃ (w1 w2 : PV × Int), opR ((s.drop 0).take (s.length - 1 - 0)) = w1 ∧ rdP ((s.drop 0).take (s.length - 1 - 0)) = w2 ∧ (e1 = 0 → w1.2 = 8) ∧ (e3 = 0 → w2.2 = 8) := by
  refine ⟨_, _, rfl, rfl, fun h => ?_, fun h => ?_⟩
  · rcases f1 with ⟨_, l, _, _, h2, h3, _⟩ | ⟨h2, _⟩
    · obtain ⟨u, d, e, hd⟩ := endN_cut (h3 ▸ rpts_end h2 (h3 ▸ hne) : endN s)
      rw [List.drop_zero, Nat.sub_zero, opR_no (by rw [List.length_take]; omega) e hd]
    · omega
  · rcases f3 with ⟨_, l, _, _, h2, h3, _⟩ | ⟨h2, _⟩
    · obtain ⟨u, d, e, hd⟩ := endN_cut (h3 ▸ pcks_end h2 (h3 ▸ hne) : endN s)
      rw [List.drop_zero, Nat.sub_zero, rdP_not (by rw [List.length_take]; omega) e hd]
    · omega
theorem just_more {s : Bs} {m : UInt8} (hs : s.length ≤ 4000) (hm : m ≠ 10) : ∃ (w1 w2 : PV × Int), opR (s ++ [m]) = w1 ∧ rdP (s ++ [m]) = w2 ∧ w1.2 = 8 ∧ w2.2 = 8 := by
  refine ⟨_, _, rfl, rfl, ?_, ?_⟩
  · rw [opR_no (by rw [List.length_append]; simp; omega) rfl hm]
  · rw [rdP_not (by rw [List.length_append]; simp; omega) rfl hm]
end Go.Proofs.YtidmbdmommjlnaaDoor
end
