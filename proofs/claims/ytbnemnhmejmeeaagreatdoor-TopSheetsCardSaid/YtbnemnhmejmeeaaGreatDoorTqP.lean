/-
  TopSheets, plain: reports of what leads are made of; how many lines they have.
-/
import Derived.Test.YtbnemnhmejmeeaaGreatDoorSqP
import Derived.Test.YtbnemnhmejmeeaaGreatDoorNqP
import Derived.Test.YtbnemnhmejmeeaaGreatDoorRqP
section
set_option linter.unusedVariables false
set_option linter.unusedSimpArgs false
namespace Go.Proofs.YtbnemnhmejmeeaaGreatDoor
open Go.AF
def kOf (s : Sh.Stk) : Bk.Stk := ⟨⟨s.rlo, s.rhi⟩, ⟨s.plo, s.phi⟩⟩
def rOf (a : Nat) (l : List Sh.Lds) (i : Nat) : Bk.Rpt := ⟨(a : Int) + 3 * (i : Int), (Sh.ld l i).st.map kOf, ⟨(Sh.ld l i).slo, (Sh.ld l i).shi⟩, ⟨(Sh.ld l i).wlo, (Sh.ld l i).whi⟩⟩
def rsOf (a : Nat) (l : List Sh.Lds) (n : Nat) : List Bk.Rpt := (List.range n).map (rOf a l)
theorem stks_k (st : List Sh.Stk) : Bk.stksV (st.map kOf) = Sh.stV st := by
  unfold Bk.stksV Sh.stV
  rw [List.flatMap_map, List.length_map]; rfl
theorem rOf_cells (a : Nat) (l : List Sh.Lds) (i : Nat) : (rOf a l i).cells = [.int .i64 ((a : Int) + 3 * (i : Int)), Sh.stV (Sh.ld l i).st, .int .i64 (Sh.ld l i).slo, .int .i64 (Sh.ld l i).shi, .int .i64 (Sh.ld l i).wlo, .int .i64 (Sh.ld l i).whi] := by
  show [PV.int .i64 _, Bk.stksV ((Sh.ld l i).st.map kOf), _, _, _, _] = _
  rw [stks_k]; rfl
theorem rsOf_succ (a : Nat) (l : List Sh.Lds) (n : Nat) : rsOf a l (n + 1) = rsOf a l n ++ [rOf a l n] := by unfold rsOf; rw [List.range_succ, List.map_append]; rfl
theorem rsOf_len (a : Nat) (l : List Sh.Lds) (n : Nat) : (rsOf a l n).length = n := by simp [rsOf]
theorem rsOf_at (a : Nat) (l : List Sh.Lds) {n i : Nat} (h : i < n) : Bk.gt Bk.Rpt.d (rsOf a l n) i = rOf a l i := by
  rw [← Bk.gt_get Bk.Rpt.d i (by rw [rsOf_len]; exact h)]
  simp [rsOf]
theorem rsOf_cells (a : Nat) (l : List Sh.Lds) (n : Nat) : (rsOf a l (n + 1)).flatMap Bk.Rpt.cells = (rsOf a l n).flatMap Bk.Rpt.cells ++ (rOf a l n).cells := by
  rw [rsOf_succ, List.flatMap_append]; simp
theorem kOf_ok {s : Sh.Stk} (h : Sh.okS s) : Bk.stkN (kOf s) = false := by
  obtain ⟨⟨h1, h2, h3⟩, h4, h5, h6⟩ := h
  unfold Bk.stkN Bk.spnB kOf
  simp only [Bool.or_eq_false_iff, Bool.not_eq_false', Bool.and_eq_true, decide_eq_true_eq]
  exact ⟨⟨⟨h1, h2⟩, h3⟩, ⟨h4, h5⟩, h6⟩
theorem rOf_ok (a : Nat) {l : List Sh.Lds} {i : Nat} (h : Sh.ldB (Sh.ld l i) = true) : Bk.rptB (rOf a l i) = true := by
  have H := (Sh.ldB_iff _).1 h
  have h1 : ((rOf a l i).strokes.any Bk.stkN) = false := by
    rw [List.any_eq_false]
    intro x hx
    obtain ⟨s, hs, rfl⟩ := List.mem_map.1 hx
    rw [kOf_ok (H.st s hs)]; decide
  have h2 : ((rOf a l i).strokes.length : Int) ≤ 6 := by
    have e : (rOf a l i).strokes.length = (Sh.ld l i).st.length := List.length_map ..
    have := H.n
    omega
  unfold Bk.rptB
  rw [h1, decide_eq_true h2]
  unfold Bk.spnB rOf
  simp only [Bool.and_eq_true, decide_eq_true_eq, Bool.not_false, true_and]
  exact ⟨⟨⟨H.s.1, H.s.2.1⟩, H.s.2.2⟩, ⟨H.w.1, H.w.2.1⟩, H.w.2.2⟩
theorem rsOf_rise {a : Nat} {l : List Sh.Lds} (ha : a ≤ 65535) (h10 : l.length ≤ 10) (hv : ∀ x ∈ l, Sh.ldB x = true) : ∀ (k s : Nat) (last : Int), s + k ≤ l.length → last < (a : Int) + 3 * (s : Int) → Bk.riseB Bk.Rpt.batch Bk.rptB last ((List.range' s k).map (rOf a l)) = true
  | 0, s, last, _, _ => rfl
  | k + 1, s, last, h1, h2 => by
    rw [List.range'_succ, List.map_cons]
    unfold Bk.riseB
    rw [rOf_ok a (hv _ (Sh.ld_mem (show s < l.length by omega))), rsOf_rise ha h10 hv k (s + 1) _ (by omega) (by show (a : Int) + 3 * (s : Int) < _; omega)]
    have e : Bk.inB (Bk.Rpt.batch (rOf a l s)) (last + 1) 1000000 = true := by
      unfold Bk.inB rOf
      simp only [Bool.and_eq_true, decide_eq_true_eq]
      omega
    rw [e]; rfl
theorem rsOf_B {a : Nat} {l : List Sh.Lds} (ha : a ≤ 65535) (h10 : l.length ≤ 10) (hv : ∀ x ∈ l, Sh.ldB x = true) : Bk.rptsB (rsOf a l l.length) = true := by
  unfold Bk.rptsB rsOf
  rw [List.range_eq_range']
  exact rsOf_rise ha h10 hv l.length 0 (-1) (by omega) (by omega)
theorem rsOf_wr {a : Nat} {l : List Sh.Lds} (ha : a ≤ 65535) (h10 : l.length ≤ 10) (hv : ∀ x ∈ l, Sh.ldB x = true) : Bk.wrR (rsOf a l l.length) = (Bk.rptsT (rsOf a l l.length), 0) := by
  refine Bk.wrR_yes ?_
  unfold Bk.chkN
  rw [rsOf_len, rsOf_B ha h10 hv, if_neg (by omega)]; rfl
theorem rsOf_n {a : Nat} {l : List Sh.Lds} (hv : ∀ x ∈ l, Sh.ldB x = true) : ∀ r ∈ rsOf a l l.length, r.strokes.length ≤ 6 := fun r hr => by
  obtain ⟨i, hi, rfl⟩ := List.mem_map.1 hr
  have H := ((Sh.ldB_iff _).1 (hv _ (Sh.ld_mem (List.mem_range.1 hi)))).n
  show ((Sh.ld l i).st.map kOf).length ≤ 6
  rw [List.length_map]; exact H
/-- How many lines the reports have. -/
def lnN (l : List Sh.Lds) : Nat → Nat
  | 0 => 0
  | n + 1 => lnN l n + (3 + (Sh.ld l n).st.length)
theorem count_not {x : Bk.Bs} (h : ∀ b ∈ x, b ≠ 10) : x.count 10 = 0 := List.count_eq_zero.2 fun e => h _ e rfl
theorem count_lines : ∀ (ls : List Bk.Bs), (∀ x ∈ ls, ∀ b ∈ x, b ≠ 10) → (ls.flatMap fun x => x ++ [10]).count 10 = ls.length
  | [], _ => rfl
  | x :: ls, h => by
    rw [List.flatMap_cons, List.count_append, List.count_append, count_not (h x List.mem_cons_self), count_lines ls fun y hy => h y (List.mem_cons_of_mem _ hy)]
    simp; omega
theorem count_r {r : Bk.Rpt} (h : Bk.RptR r) : (Bk.rptT r).count 10 = 3 + r.strokes.length := by
  rw [← Bk.linesR_T, count_lines _ (Bk.linesR_ne10 h)]
  unfold Bk.linesR
  simp; omega
theorem count_rs {l : List Bk.Rpt} (h : ∀ r ∈ l, Bk.RptR r) : ∀ n, n ≤ l.length → (Bk.rptsT (l.take n)).count 10 = ((l.take n).map fun r => 3 + r.strokes.length).sum
  | n, hn => by
    unfold Bk.rptsT
    rw [List.count_flatMap]
    congr 1
    apply List.map_congr_left
    intro r hr
    exact count_r (h r (List.mem_of_mem_take hr))
theorem lnN_sum (a : Nat) (l : List Sh.Lds) : ∀ n, ((rsOf a l n).map fun r => 3 + r.strokes.length).sum = lnN l n
  | 0 => rfl
  | n + 1 => by
    rw [rsOf_succ, List.map_append, List.sum_append, lnN_sum a l n]
    show lnN l n + (3 + ((Sh.ld l n).st.map kOf).length + 0) = _
    rw [List.length_map]; rfl
theorem count_all {a : Nat} {l : List Sh.Lds} (ha : a ≤ 65535) (h10 : l.length ≤ 10) (hv : ∀ x ∈ l, Sh.ldB x = true) : (Bk.rptsT (rsOf a l l.length)).count 10 = lnN l l.length := by
  have hR : ∀ r ∈ rsOf a l l.length, Bk.RptR r := fun x hx => by
    obtain ⟨_, h0, h1, h2⟩ := Bk.rise_all (rsOf_B ha h10 hv) (by decide) x hx
    exact Bk.rptB_R h2 h0 h1
  have h := count_rs hR _ (Nat.le_refl _)
  rw [List.take_length, lnN_sum] at h
  exact h
theorem lnN_le (l : List Sh.Lds) (hv : ∀ x ∈ l, Sh.ldB x = true) : ∀ n, n ≤ l.length → lnN l n ≤ 9 * n
  | 0, _ => Nat.le_refl _
  | n + 1, h => by
    have h1 := lnN_le l hv n (by omega)
    have h2 := ((Sh.ldB_iff _).1 (hv _ (Sh.ld_mem (show n < l.length by omega)))).n
    unfold lnN
    omega
/-- The leads again, of what was read. -/
def ldY (rs : List Bk.Rpt) (l : List Sh.Lds) (i : Nat) : PV := .agg [.int .i64 (Sh.ld l i).glo, .int .i64 (Sh.ld l i).ghi, .int .i64 (Sh.ld l i).clo, .int .i64 (Sh.ld l i).chi, .int .i64 (Sh.ld l i).tol, Bk.stksV (Bk.gt Bk.Rpt.d rs i).strokes, .int .i64 (Bk.gt Bk.Rpt.d rs i).strength.lo, .int .i64 (Bk.gt Bk.Rpt.d rs i).strength.hi, .int .i64 (Bk.gt Bk.Rpt.d rs i).wear.lo, .int .i64 (Bk.gt Bk.Rpt.d rs i).wear.hi, .int .i64 (Sh.ld l i).many]
theorem ldY_eq {a : Nat} {rs : List Bk.Rpt} {l : List Sh.Lds} {i : Nat} (h : Bk.gt Bk.Rpt.d rs i = rOf a l i) : ldY rs l i = Sh.ldV (Sh.ld l i) := by
  unfold ldY
  rw [h]
  show PV.agg [_, _, _, _, _, Bk.stksV ((Sh.ld l i).st.map kOf), _, _, _, _, _] = _
  rw [stks_k]; rfl
def awT : Bk.Bs := [55, 58, 32, 48, 45, 51, 32, 53, 32, 56, 120, 50, 10]
def awS : Bk.Bs := [98, 97, 116, 99, 104, 32, 49, 53, 10, 115, 116, 114, 101, 110, 103, 116, 104, 32, 49, 48, 48, 10, 119, 101, 97, 114, 32, 48, 46, 46, 53, 10]
theorem aw_P : Bk.wrP [⟨7, [0, 1, 2, 3, 5, 8, 8]⟩] = (awT, 0) := by decide +kernel
theorem aw_R : Bk.wrR [⟨15, [], ⟨100, 100⟩, ⟨0, 5⟩⟩] = (awS, 0) := by decide +kernel
def awB : List Rx.Bat := [⟨0, 0⟩, ⟨0, 0⟩, ⟨3, 0⟩]
theorem aw_B : Rx.fromN awB (Rx.backN awB) 2 = 7 ∧ Rx.fromE awB 2 = 0 := by decide +kernel
end Go.Proofs.YtbnemnhmejmeeaaGreatDoor
end
