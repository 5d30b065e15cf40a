/-
  Chapter 7: what truly happens to a batch, whatever time its coats truly dry. No program in sight.
-/
import Derived.Test.YtibgdkaipleajaaCuP4
section
set_option linter.unusedVariables false
set_option linter.unusedSimpArgs false
namespace Go.Proofs.Ytibgdkaipleajaa
open Go.AF
structure Tr where
  many : Nat
  last : Int
  d : Int
  ended : Int
/-- How long a coat truly dries. -/
def dT (p : Pnt) (dry : List Nat) (i m k : Nat) : Int := (spt (cot p.bs i).dry m).lo + ((nn dry (k % dry.length) % ((spt (cot p.bs i).dry m).hi - (spt (cot p.bs i).dry m).lo + 1).toNat : Nat) : Int)
def trN (p : Pnt) (o : List Int) (dry : List Nat) (hour : Int) (i : Nat) : Nat → Tr
  | 0 => ⟨0, 0, 0, 0⟩
  | k + 1 => if nt o k = (i : Int) then ⟨(trN p o dry hour i k).many + 1, hrI p o k + p.dip, dT p dry i (trN p o dry hour i k).many k, if hrI p o k + p.dip ≤ hour then hrI p o k + p.dip + dT p dry i (trN p o dry hour i k).many k else (trN p o dry hour i k).ended⟩ else trN p o dry hour i k
theorem remT {a : Nat} {b : Int} (h : 0 < b) : Int.tmod (a : Int) b = ((a % b.toNat : Nat) : Int) := by
  obtain ⟨n, rfl⟩ : ∃ n : Nat, b = (n : Int) := ⟨b.toNat, by omega⟩
  rfl
theorem dT_B {p : Pnt} (hp : Ok p) {i m : Nat} (hi : i < p.bs.length) (hm : m < (cot p.bs i).dry.length) (dry : List Nat) (k : Nat) : (spt (cot p.bs i).dry m).lo ≤ dT p dry i m k ∧ dT p dry i m k ≤ (spt (cot p.bs i).dry m).hi := by
  have h := hp.dry _ (cot_mem hi) _ (spt_mem hm)
  have h1 : nn dry (k % dry.length) % ((spt (cot p.bs i).dry m).hi - (spt (cot p.bs i).dry m).lo + 1).toNat < ((spt (cot p.bs i).dry m).hi - (spt (cot p.bs i).dry m).lo + 1).toNat := Nat.mod_lt _ (by omega)
  unfold dT
  omega
structure TrI (p : Pnt) (o : List Int) (dry : List Nat) (hour : Int) (i k : Nat) : Prop where
  many : (trN p o dry hour i k).many = ((stN p o k).had i).many
  last : 0 < (trN p o dry hour i k).many → (trN p o dry hour i k).many - 1 < (cot p.bs i).dry.length ∧ (trN p o dry hour i k).last = ((stN p o k).had i).fin ∧ ((stN p o k).had i).could = ((stN p o k).had i).fin + (spt (cot p.bs i).dry ((trN p o dry hour i k).many - 1)).lo ∧ ((stN p o k).had i).surely = ((stN p o k).had i).fin + (spt (cot p.bs i).dry ((trN p o dry hour i k).many - 1)).hi ∧ (spt (cot p.bs i).dry ((trN p o dry hour i k).many - 1)).lo ≤ (trN p o dry hour i k).d ∧ (trN p o dry hour i k).d ≤ (spt (cot p.bs i).dry ((trN p o dry hour i k).many - 1)).hi
  zero : (trN p o dry hour i k).many = 0 → (trN p o dry hour i k).last = 0 ∧ (trN p o dry hour i k).d = 0
  same : (wsN p o hour k).had i = (stN p o k).had i ∨ hour < (stN p o k).fr
  none : ((wsN p o hour k).had i).many = 0 → (trN p o dry hour i k).ended = 0
  some : 0 < ((wsN p o hour k).had i).many → ((wsN p o hour k).had i).could ≤ (trN p o dry hour i k).ended ∧ (trN p o dry hour i k).ended ≤ ((wsN p o hour k).had i).surely
theorem tr_inv {p : Pnt} (hp : Ok p) (o : List Int) (dry : List Nat) (hour : Int) {i : Nat} (hi : i < p.bs.length) : ∀ k, NoErr p o k → TrI p o dry hour i k
  | 0, _ => ⟨rfl, fun h => absurd h (by show ¬ (0 < 0); omega), fun _ => ⟨rfl, rfl⟩, .inl rfl, fun _ => rfl, fun h => absurd h (by show ¬ (0 < 0); omega)⟩
  | k + 1, hE => by
    have ih := tr_inv hp o dry hour hi k fun j hj => hE j (by omega)
    obtain ⟨q, hq, hql, hm, hr, hs, hla⟩ := st_S (hE k (by omega))
    have hfr := fr_le hp (stN p o k) q
    have hd := hp.dip
    have efr : (stN p o (k + 1)).fr = hrI p o k + p.dip := by rw [hs, hr]; rfl
    have est : (stN p o (k + 1)).had i = if i = q then hngN p (stN p o k) q (hrI p o k) else (stN p o k).had i := by rw [hs, hr]; rfl
    have ews : (wsN p o hour (k + 1)).had i = if hrI p o k + p.dip ≤ hour then (if i = q then hngN p (wsN p o hour k) q (hrI p o k) else (wsN p o hour k).had i) else (wsN p o hour k).had i := by
      rw [wsN]
      split
      · rw [hq]; rfl
      · rfl
    by_cases e : i = q
    · subst e
      rw [if_pos rfl] at est
      have et : trN p o dry hour i (k + 1) = ⟨(trN p o dry hour i k).many + 1, hrI p o k + p.dip, dT p dry i (trN p o dry hour i k).many k, if hrI p o k + p.dip ≤ hour then hrI p o k + p.dip + dT p dry i (trN p o dry hour i k).many k else (trN p o dry hour i k).ended⟩ := if_pos hq
      have hmm : (trN p o dry hour i k).many < (cot p.bs i).dry.length := by rw [ih.many]; exact hm
      have hB := dT_B hp hi hmm dry k
      refine ⟨?_, fun _ => ?_, fun h => ?_, ?_, ?_, ?_⟩
      · rw [et, est]
        show (trN p o dry hour i k).many + 1 = ((stN p o k).had i).many + 1
        rw [ih.many]
      · rw [et, est]
        show (trN p o dry hour i k).many + 1 - 1 < _ ∧ hrI p o k + p.dip = hrI p o k + p.dip ∧ hrI p o k + p.dip + (spt (cot p.bs i).dry ((stN p o k).had i).many).lo = hrI p o k + p.dip + (spt (cot p.bs i).dry ((trN p o dry hour i k).many + 1 - 1)).lo ∧ hrI p o k + p.dip + (spt (cot p.bs i).dry ((stN p o k).had i).many).hi = hrI p o k + p.dip + (spt (cot p.bs i).dry ((trN p o dry hour i k).many + 1 - 1)).hi ∧ (spt (cot p.bs i).dry ((trN p o dry hour i k).many + 1 - 1)).lo ≤ dT p dry i (trN p o dry hour i k).many k ∧ dT p dry i (trN p o dry hour i k).many k ≤ (spt (cot p.bs i).dry ((trN p o dry hour i k).many + 1 - 1)).hi
        rw [Nat.add_sub_cancel, ← ih.many]
        exact ⟨hmm, rfl, rfl, rfl, hB.1, hB.2⟩
      · rw [et] at h
        exact absurd h (Nat.succ_ne_zero _)
      · by_cases hle : hrI p o k + p.dip ≤ hour
        · left
          rw [if_pos hle, if_pos rfl] at ews
          rcases ih.same with h | h
          · rw [ews, est]
            unfold hngN
            rw [h]
          · omega
        · right
          rw [efr]; omega
      · intro h
        by_cases hle : hrI p o k + p.dip ≤ hour
        · rw [if_pos hle, if_pos rfl] at ews
          rw [ews] at h
          exact absurd h (Nat.succ_ne_zero _)
        · rw [if_neg hle] at ews
          rw [ews] at h
          rw [et]
          show (if hrI p o k + p.dip ≤ hour then _ else _) = _
          rw [if_neg hle]
          exact ih.none h
      · intro h
        by_cases hle : hrI p o k + p.dip ≤ hour
        · rw [if_pos hle, if_pos rfl] at ews
          have h2 : (wsN p o hour k).had i = (stN p o k).had i := by
            rcases ih.same with h | h
            · exact h
            · omega
          rw [ews, et]
          show hrI p o k + p.dip + (spt (cot p.bs i).dry ((wsN p o hour k).had i).many).lo ≤ (if hrI p o k + p.dip ≤ hour then _ else _) ∧ (if hrI p o k + p.dip ≤ hour then _ else _) ≤ hrI p o k + p.dip + (spt (cot p.bs i).dry ((wsN p o hour k).had i).many).hi
          rw [if_pos hle, h2, ← ih.many]
          omega
        · rw [if_neg hle] at ews
          rw [ews] at h ⊢
          rw [et]
          show _ ≤ (if hrI p o k + p.dip ≤ hour then _ else _) ∧ (if hrI p o k + p.dip ≤ hour then _ else _) ≤ _
          rw [if_neg hle]
          exact ih.some h
    · rw [if_neg e] at est
      have ews2 : (wsN p o hour (k + 1)).had i = (wsN p o hour k).had i := by
        rw [ews, if_neg e]
        split <;> rfl
      have et : trN p o dry hour i (k + 1) = trN p o dry hour i k := if_neg (by rw [hq]; omega)
      refine ⟨by rw [et, est]; exact ih.many, by rw [et, est]; exact ih.last, by rw [et]; exact ih.zero, ?_, by rw [et, ews2]; exact ih.none, by rw [et, ews2]; exact ih.some⟩
      rw [ews2, est, efr]
      rcases ih.same with h | h
      · exact .inl h
      · right; omega
/-- A coat goes on no sooner than the last one is dry, and not too late. -/
theorem tr_hour {p : Pnt} (hp : Ok p) {o : List Int} {dry : List Nat} {hour : Int} {i k : Nat} (hi : i < p.bs.length) (hE : NoErr p o (k + 1)) (hk : nt o k = (i : Int)) (hm : 0 < (trN p o dry hour i k).many) :
    (trN p o dry hour i k).last + (trN p o dry hour i k).d ≤ hrI p o k ∧ hrI p o k ≤ (trN p o dry hour i k).last + (trN p o dry hour i k).d + (cot p.bs i).late + (spt (cot p.bs i).dry ((trN p o dry hour i k).many - 1)).hi - (spt (cot p.bs i).dry ((trN p o dry hour i k).many - 1)).lo := by
  have ih := tr_inv hp o dry hour hi k fun j hj => hE j (by omega)
  obtain ⟨q, hq, hql, hmq, hr, hs, hla⟩ := st_S (hE k (by omega))
  obtain rfl : q = i := by omega
  obtain ⟨h0, h1, h2, h3, h4, h5⟩ := ih.last hm
  have h6 := hour_le hp (stN p o k) q
  have hpos : (((stN p o k).had q).many : Int) > 0 := by have := ih.many; omega
  have h7 : hourN (stN p o k) q = max (stN p o k).fr ((stN p o k).had q).surely := if_pos hpos
  have h8 : ¬ timeN p (stN p o k) q > ((stN p o k).had q).could + (cot p.bs q).late := fun h => by
    refine hla ?_
    show (decide ((((stN p o k).had q).many : Int) > 0) && decide (timeN p (stN p o k) q > ((stN p o k).had q).could + (cot p.bs q).late)) = true
    rw [decide_eq_true hpos, decide_eq_true h]; rfl
  rw [hr]
  omega
def wetT (p : Pnt) (o : List Int) (dry : List Nat) (hour : Int) (i : Nat) : Bool := decide ((trN p o dry hour i o.length).ended > hour)
theorem cntB_mono {f g : Nat → Bool} : ∀ m, (∀ k, k < m → f k = true → g k = true) → cntB f m ≤ cntB g m
  | 0, _ => Int.le_refl _
  | m + 1, h => by
    have ih := cntB_mono m fun k hk => h k (by omega)
    have h1 := h m (by omega)
    show (if f m = true then cntB f m + 1 else cntB f m) ≤ (if g m = true then cntB g m + 1 else cntB g m)
    split
    · rename_i h2
      rw [if_pos (h1 h2)]
      omega
    · split <;> omega
/-- As many are truly wet as Wet says. -/
theorem tr_wet {p : Pnt} (hp : Ok p) {o : List Int} (dry : List Nat) {hour : Int} (h0 : 0 ≤ hour) (hE : NoErr p o o.length) :
    cntB (wl (wsN p o hour o.length) hour) 4 ≤ cntB (wetT p o dry hour) p.bs.length ∧ cntB (wetT p o dry hour) p.bs.length ≤ cntB (wh (wsN p o hour o.length) hour) 4 := by
  have hn := hp.n
  have hout := ws_out hp hour o.length hE
  have cl := cnt_out (f := wl (wsN p o hour o.length) hour) (n := p.bs.length) (fun k hk => by unfold wl; rw [hout k hk]; rfl) 4 (by omega)
  have ch := cnt_out (f := wh (wsN p o hour o.length) hour) (n := p.bs.length) (fun k hk => by unfold wh; rw [hout k hk]; rfl) 4 (by omega)
  rw [cl, ch]
  refine ⟨cntB_mono _ fun k hk h => ?_, cntB_mono _ fun k hk h => ?_⟩
  · have ht := tr_inv hp o dry hour hk o.length hE
    unfold wl at h
    rw [Bool.and_eq_true] at h
    have h1 := of_decide_eq_true h.1
    have h2 := of_decide_eq_true h.2
    have h3 := ht.some (by omega)
    exact decide_eq_true (by omega)
  · have ht := tr_inv hp o dry hour hk o.length hE
    have h1 := of_decide_eq_true h
    unfold wh
    rcases Nat.eq_zero_or_pos ((wsN p o hour o.length).had k).many with h2 | h2
    · have := ht.none h2; omega
    · have h3 := ht.some h2
      rw [decide_eq_true (show (((wsN p o hour o.length).had k).many : Int) > 0 by omega), decide_eq_true (show hour < ((wsN p o hour o.length).had k).surely by omega)]
      rfl
theorem hr_next {p : Pnt} (hp : Ok p) {o : List Int} {k : Nat} (hE : NoErr p o (k + 2)) : hrI p o k + p.dip ≤ hrI p o (k + 1) := by
  obtain ⟨q, _, _, _, hr, hs, _⟩ := st_S (hE k (by omega))
  obtain ⟨q2, _, _, _, hr2, _, _⟩ := st_S (hE (k + 1) (by omega))
  have h := fr_le hp (stN p o (k + 1)) q2
  have e : (stN p o (k + 1)).fr = hrI p o k + p.dip := by rw [hs, hr]; rfl
  omega
theorem cnt_one {f g : Nat → Bool} {b : Nat} : ∀ m, (∀ k, k < m → k ≠ b → f k = true → g k = true) → cntB f m ≤ cntB g m + (if b < m then 1 else 0)
  | 0, _ => by show (0 : Int) ≤ 0 + _; split <;> omega
  | m + 1, h => by
    have ih := cnt_one m fun k hk => h k (by omega)
    have h1 := h m (by omega)
    show (if f m = true then cntB f m + 1 else cntB f m) ≤ (if g m = true then cntB g m + 1 else cntB g m) + _
    by_cases e : m = b
    · subst e
      rw [if_neg (by omega)] at ih
      rw [if_pos (show m < m + 1 by omega)]
      by_cases hf : f m = true
      · rw [if_pos hf]
        by_cases hg : g m = true
        · rw [if_pos hg]; omega
        · rw [if_neg hg]; omega
      · rw [if_neg hf]
        by_cases hg : g m = true
        · rw [if_pos hg]; omega
        · rw [if_neg hg]; omega
    · have h2 := h1 e
      have e3 : (if b < m + 1 then (1 : Int) else 0) = if b < m then 1 else 0 := by
        by_cases e2 : b < m
        · rw [if_pos e2, if_pos (by omega)]
        · rw [if_neg e2, if_neg (by omega)]
      rw [e3]
      by_cases hf : f m = true
      · rw [if_pos hf, if_pos (h2 hf)]; omega
      · rw [if_neg hf]
        by_cases hg : g m = true
        · rw [if_pos hg]; omega
        · rw [if_neg hg]; omega
/-- Never more batches than there are racks hang in them. -/
theorem tr_rack {p : Pnt} (hp : Ok p) {o : List Int} {k : Nat} (hk9 : k + 1 ≤ 1000) (hE : NoErr p o (k + 1)) : cntB (hgD p (mkD p o (k + 1)) (-1) (hrI p o k + p.dip)) p.bs.length ≤ p.racks := by
  obtain ⟨q, hq, hql, hm, hr, hs, _⟩ := st_S (hE k (by omega))
  have hE2 : NoErr p o k := fun j hj => hE j (by omega)
  have hG := good_mk hp hk9 hE
  have hlen := mkD_len p o (k + 1)
  have hS := fS_st hE (k + 1) (Nat.le_refl _)
  have hfree := time_free hp (stN p o k) q
  have hd := hp.dip
  have hB := time_B hp (stN_B hp o k) q
  have hc : cntB (fun i => hangB (stN p o k) (q : Int) (timeN p (stN p o k) q + p.dip) i) p.bs.length = ((hangF (stN p o k) (q : Int) (timeN p (stN p o k) q + p.dip) p.bs.length).length : Int) := hang_cnt (fun _ _ => rfl) _ (Nat.le_refl _)
  have h1 := cnt_one (f := hgD p (mkD p o (k + 1)) (-1) (hrI p o k + p.dip)) (g := fun i => hangB (stN p o k) (q : Int) (timeN p (stN p o k) q + p.dip) i) (b := q) p.bs.length (fun i hi hne h => by
    have hl := last_fS hG i (k + 1) (by omega)
    rw [hS] at hl
    have eh : (stN p o (k + 1)).had i = (stN p o k).had i := by
      rw [hs]
      show (if i = q then _ else (stN p o k).had i) = _
      rw [if_neg hne]
    rw [eh] at hl
    unfold hgD at h
    rw [hlen] at h
    unfold hangB
    rcases hl with ⟨h1, h2⟩ | ⟨h1, d, h2, h3, h4, h5⟩
    · rw [h2] at h
      simp at h
    · rw [h2] at h
      simp only [Bool.and_eq_true, decide_eq_true_eq] at h
      have h6 := h.2
      rw [decide_eq_true (show (((stN p o k).had i).many : Int) > 0 by omega), decide_eq_false (show ¬ (i : Int) = (q : Int) by omega), decide_eq_true (show timeN p (stN p o k) q + p.dip < ((stN p o k).had i).surely by rw [← hr, h5]; omega)]
      rfl)
  rw [hc, if_pos hql] at h1
  have h2 : ((hangF (stN p o k) (q : Int) (timeN p (stN p o k) q + p.dip) p.bs.length).length : Int) < p.racks := hfree
  omega
theorem mk_take (p : Pnt) (o : List Int) {n k : Nat} (h : k ≤ n) : (mkD p o n).take k = mkD p o k := by
  unfold mkD
  rw [← List.map_take, List.take_range, Nat.min_eq_left h]
/-- Why an order of all coats may have no times. -/
theorem times_11 {p : Pnt} (hT : pntB p = true) {o : List Int} (hV : OrdV p o) (hl : coats p ≤ o.length) (h : ¬ (timesR p o).2.2 = 0) : ∃ i : Nat, i < o.length ∧ timesR p o = ([], (i : Int), 11) := by
  have hp := pnt_ok hT
  by_cases hall : ∀ j, j < o.length → errI p o j = 0
  · rw [times_end hT hall, if_neg (by omega)] at h
    exact absurd rfl h
  · obtain ⟨i, hi, he, hmin⟩ : ∃ i, i < o.length ∧ ¬ errI p o i = 0 ∧ ∀ j, j < i → errI p o j = 0 := by
      have hex : ∃ i, i < o.length ∧ ¬ errI p o i = 0 := by
        refine Classical.byContradiction fun hc => hall fun j hj => Classical.byContradiction fun h2 => hc ⟨j, hj, h2⟩
      clear hall h
      obtain ⟨i, hi⟩ := hex
      induction i using Nat.strongRecOn with
      | _ i ih =>
        by_cases hm : ∀ j, j < i → errI p o j = 0
        · exact ⟨i, hi.1, hi.2, hm⟩
        · obtain ⟨j, hj⟩ := Classical.not_forall.1 hm
          obtain ⟨h1, h2⟩ := Classical.not_imp.1 hj
          exact ih j h1 ⟨by omega, h2⟩
    refine ⟨i, hi, ?_⟩
    obtain ⟨q, hq, hql, hc⟩ := hV i hi
    have hcm : countI o (q : Int) i = ((stN p o i).had q).many := by
      have h1 : ∀ j, j ≤ i → countI o (q : Int) j = ((stN p o j).had q).many := by
        intro j
        induction j with
        | zero => intro _; rfl
        | succ j ih =>
          intro hj
          have ih := ih (by omega)
          obtain ⟨b, hb, hbl, hm, hr, hs, _⟩ := st_S (hmin j (by omega))
          rw [hs]
          show (if nt o j = (q : Int) then countI o (q : Int) j + 1 else countI o (q : Int) j) = (if q = b then hngN p (stN p o j) b (timeN p (stN p o j) b) else (stN p o j).had q).many
          by_cases e : q = b
          · subst e
            rw [if_pos hb, if_pos rfl, ih]; rfl
          · rw [if_neg (by rw [hb]; omega), if_neg e]; exact ih
      exact h1 i (Nat.le_refl _)
    have hmy := may_ok0 hq hql (by omega)
    have he2 : errI p o i = 11 := by
      by_cases hla : isLateB p (stN p o i) (q : Int) (timeN p (stN p o i) q) = true
      · exact err_11 hq hmy hla
      · exact absurd (err_0 hq hmy hla).1 he
    rw [times_err hT hi hmin he, he2]
theorem hr_B {p : Pnt} (hp : Ok p) {o : List Int} {k : Nat} (hk : k ≤ 400) (h : errI p o k = 0) : 0 ≤ hrI p o k ∧ hrI p o k ≤ 1000000 := by
  obtain ⟨q, _, _, _, hr, _, _⟩ := st_S h
  have hB := time_B hp (stN_B hp o k) q
  rw [hr]
  omega
theorem tr_B {p : Pnt} (hp : Ok p) {o : List Int} {dry : List Nat} {hour : Int} {i k : Nat} (hk : k ≤ 400) (hi : i < p.bs.length) (ht : TrI p o dry hour i k) : ((trN p o dry hour i k).last = 0 ∧ (trN p o dry hour i k).d = 0) ∨ (-1000 ≤ (trN p o dry hour i k).last ∧ (trN p o dry hour i k).last ≤ 1000000 ∧ 0 ≤ (trN p o dry hour i k).d ∧ (trN p o dry hour i k).d ≤ 1000) := by
  rcases Nat.eq_zero_or_pos (trN p o dry hour i k).many with h | h
  · exact .inl (ht.zero h)
  · right
    obtain ⟨h0, h1, h2, h3, h4, h5⟩ := ht.last h
    have hS := stN_B hp o k
    have h6 := hS.could i
    have h7 := hp.dry _ (cot_mem hi) _ (spt_mem h0)
    omega
theorem tr_many {p : Pnt} (hp : Ok p) {o : List Int} {dry : List Nat} {hour : Int} {i k : Nat} (hE : errI p o k = 0) (hk : nt o k = (i : Int)) (ht : TrI p o dry hour i k) : (trN p o dry hour i k).many < (cot p.bs i).dry.length := by
  obtain ⟨q, hq, hql, hmq, hr, hs, hla⟩ := st_S hE
  obtain rfl : q = i := by omega
  rw [ht.many]; exact hmq
end Go.Proofs.Ytibgdkaipleajaa
end
