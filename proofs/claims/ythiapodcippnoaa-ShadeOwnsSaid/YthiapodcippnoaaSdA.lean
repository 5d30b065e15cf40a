/-
  The examples of chapter 2, by the kernel. No condition.
-/
import Derived.Test.YthiapodcippnoaaSdC
import Derived.KernelRfl
set_option linter.unusedVariables false
set_option maxRecDepth 100000
namespace Go.Proofs.Ythiapodcippnoaa
open Go.AF
def curveL : List Tnt := [⟨0, 20⟩, ⟨500, 60⟩, ⟨1000, 180⟩]
def smpL : Lds := ⟨600, 600, 400, 400, 6, [⟨40, 45, 500, 500⟩, ⟨70, 80, 900, 1000⟩], 150, 160, 30, 35, 0⟩
def smpS : List Shd := [⟨20, 79, 100, 200, 0, 50⟩, ⟨70, 90, 100, 200, 0, 50⟩, ⟨80, 120, 155, 200, 0, 50⟩]
def fourC : List Tnt := [⟨0, 0⟩, ⟨1000, 200⟩]
def fourX : List (Int × Int × Int) := [(420, 4, 100), (175, 5, 50), (325, 5, 70), (450, 5, 60)]
def fourOne (x : Int × Int × Int) : Lds := ⟨x.1, x.1, 1000 - x.1, 1000 - x.1, x.2.1, [], 0, 0, 0, 0, x.2.2⟩
def fourL : List Lds := fourX.map fourOne
theorem ex_black : blackR curveL smpL = ((80, 88), 0) := by kernel_rfl
theorem ex_has : hasR curveL smpS smpL = ([1], 0) := by kernel_rfl
theorem ex_ord : ordR fourC fourL [0, 0, 0, 1] 5 = (0, 3, 0) := by kernel_rfl
def Lds.cellsN (l : Lds) : List PV := [.int .i64 l.glo, .int .i64 l.ghi, .int .i64 l.clo, .int .i64 l.chi, .int .i64 l.tol, .nilSlice, .int .i64 l.slo, .int .i64 l.shi, .int .i64 l.wlo, .int .i64 l.whi, .int .i64 l.many]
def triC (x : Int × Int × Int) : List PV := [.int .i64 x.1, .int .i64 x.2.1, .int .i64 x.2.2]
def fx (i : Nat) : Int × Int × Int := fourX.getD i (0, 0, 0)
theorem fx_get : ∀ k (h : k < fourX.length), fourX[k] = fx k := fun k h => by
  unfold fx
  rw [List.getD_eq_getElem?_getD, List.getElem?_eq_getElem h]; rfl
theorem fx_B : ∀ k, k < 4 → 0 ≤ (fx k).1 ∧ (fx k).1 ≤ 1000 := by decide
def four4 : List Bch := [⟨fourOne (420, 4, 100), 80, 88⟩, ⟨fourOne (175, 5, 50), 30, 40⟩, ⟨fourOne (325, 5, 70), 60, 70⟩, ⟨fourOne (450, 5, 60), 85, 95⟩]
theorem ex_four : fourL.map (toB fourC) = four4 := by kernel_rfl
def s4 : Scl := ⟨2, 20, 60, 5⟩
theorem ex_e : cutE fourC fourL s4 = 0 := by kernel_rfl
theorem ex_b0 : bestR four4 s4 0 45 = (230, 100, true) := by kernel_rfl
theorem ex_b1 : bestR four4 s4 1 0 = (280, 45, true) := by kernel_rfl
/-- All that can still be sold from a cut on. -/
def upB (b : List Bch) (fr : Int) : Int := (b.map fun x => if fr ≤ x.lo then x.l.many else 0).sum
theorem upB_step {b : List Bch} (hb : ∀ x ∈ b, (0 ≤ x.lo ∧ x.lo ≤ x.hi ∧ x.hi ≤ 200) ∧ 0 ≤ x.l.many ∧ x.l.many ≤ 1048576) {gap fr to : Int} (hg : 1 ≤ gap) (h : fr ≤ to) : upB b to + soldF b gap fr to ≤ upB b fr := by
  induction b with
  | nil => simp [upB, soldF]
  | cons x b ih =>
    have h1 := ih fun y hy => hb y (by simp [hy])
    have h2 := hb x (by simp)
    have e1 : upB (x :: b) to = (if to ≤ x.lo then x.l.many else 0) + upB b to := by simp [upB]
    have e2 : upB (x :: b) fr = (if fr ≤ x.lo then x.l.many else 0) + upB b fr := by simp [upB]
    have e3 : soldF (x :: b) gap fr to = soldX gap fr to x + soldF b gap fr to := by simp [soldF]
    rw [e1, e2, e3]
    have h3 : (if to ≤ x.lo then x.l.many else 0) + soldX gap fr to x ≤ if fr ≤ x.lo then x.l.many else 0 := by
      unfold soldX
      split <;> split <;> split <;> omega
    omega
theorem upB_nonneg {b : List Bch} (hb : BOk b) (fr : Int) : 0 ≤ upB b fr := by
  have := hb.x
  unfold upB
  clear hb
  induction b with
  | nil => simp
  | cons x b ih =>
    have h1 := ih fun y hy => this y (by simp [hy])
    have h2 := this x (by simp)
    rw [List.map_cons, List.sum_cons]
    split <;> omega
theorem mostF_up {b : List Bch} (hb : BOk b) {s : Scl} (hs : OkZ s) : ∀ (j : Nat) (fr : Int), mostF b s j fr ≤ upB b fr
  | 0, fr => upB_nonneg hb fr
  | j + 1, fr => by
    by_cases h : mostF b s (j + 1) fr = -1
    · have := upB_nonneg hb fr; omega
    · obtain ⟨_, h1, h2, h3⟩ := best_at hb h
      have h4 := mostF_up hb hs j (bestR b s j fr).2.1
      have hl := hs.least
      have h5 := upB_step hb.x (gap := s.gap) (by have := hs.gap; omega) (show fr ≤ (bestR b s j fr).2.1 by omega)
      omega
theorem upB_all {b : List Bch} (hb : BOk b) (fr : Int) : upB b fr ≤ (b.map fun x => x.l.many).sum := by
  have := hb.x
  unfold upB
  clear hb
  induction b with
  | nil => simp
  | cons x b ih =>
    have h1 := ih fun y hy => this y (by simp [hy])
    have h2 := this x (by simp)
    rw [List.map_cons, List.sum_cons, List.map_cons, List.sum_cons]
    split <;> omega
theorem ex_open {s : Scl} (h : cutE fourC fourL s = 0) : BOk four4 ∧ OkZ s := by
  have hO := openE_zero.1 h
  have := bok_open hO
  rw [ex_four] at this
  exact ⟨this, (sclB_iff s).1 hO.ov⟩
theorem ex_m2 : mostF four4 s4 2 0 = 280 := by rw [mostF_succ, ex_b1]; rfl
theorem ex_cutB : cutB four4 s4 = (280, 0, true) := by
  obtain ⟨hb, hs⟩ := ex_open ex_e
  have hu : ∀ fr, mostF four4 s4 2 fr ≤ 280 := fun fr => Int.le_trans (mostF_up hb hs 2 fr) (upB_all hb fr)
  have h0 := ex_m2
  unfold cutB
  rw [show s4.n.toNat = 2 from rfl]
  rcases bst_spec (f := mostF four4 s4 2) (a := 0) (fun x => (mostF_B hb s4 2 x).1) 201 with ⟨h1, h2⟩ | ⟨i, h1, h2, h3, h4, h5⟩
  · have := h2 0 (by omega)
    rw [show (0 : Int) + ((0 : Nat) : Int) = 0 from rfl, h0] at this
    omega
  · rw [h2]
    have h6 := hu (0 + (i : Int))
    rcases Nat.eq_zero_or_pos i with rfl | hp
    · rw [show (0 : Int) + ((0 : Nat) : Int) = 0 from rfl, h0]
    · have := h5 0 hp
      rw [show (0 : Int) + ((0 : Nat) : Int) = 0 from rfl, h0] at this
      omega
theorem ex_cut : cutR fourC fourL s4 = ([0, 45, 100], 280, 0) := by
  unfold cutR
  rw [if_pos ex_e, ex_four, ex_cutB, if_pos rfl]
  have e0 : frN four4 s4 0 0 = 0 := rfl
  have e1 : frN four4 s4 0 1 = 45 := by
    show (bestR four4 s4 1 (frN four4 s4 0 0)).2.1 = 45
    rw [e0, ex_b1]
  have e2 : frN four4 s4 0 2 = 100 := by
    show (bestR four4 s4 0 (frN four4 s4 0 1)).2.1 = 100
    rw [e1, ex_b0]
  have e : cutL four4 s4 0 2 = [0, 45, 100] := by
    show [frN four4 s4 0 0, frN four4 s4 0 1, frN four4 s4 0 2] = _
    rw [e0, e1, e2]
  show (cutL four4 s4 0 2, _, _) = _
  rw [e]
end Go.Proofs.Ythiapodcippnoaa
