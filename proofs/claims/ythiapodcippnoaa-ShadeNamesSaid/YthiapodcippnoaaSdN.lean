/-
  More examples of chapter 2, by the kernel. No condition.
-/
import Derived.Test.YthiapodcippnoaaSdA
import Derived.Test.YthiapodcippnoaaSdO
import Derived.KernelRfl
set_option linter.unusedVariables false
set_option maxRecDepth 100000
namespace Go.Proofs.Ythiapodcippnoaa
open Go.AF
def oneL : Lds := { smpL with st := [⟨40, 45, 500, 500⟩] }
def noneL : Lds := { smpL with st := [] }
def wideL : Lds := { noneL with glo := 550, ghi := 650 }
def badL : Lds := { smpL with st := [⟨10, 20, 500, 500⟩, ⟨70, 80, 900, 1000⟩] }
structure Cas where
  l : Lds
  lo : Int
  hi : Int
  e : Int
def Cas.cells (x : Cas) : List PV := x.l.cells ++ [.int .i64 x.lo, .int .i64 x.hi, .int .i64 x.e]
def cas : List Cas := [⟨oneL, 80, 90, 0⟩, ⟨noneL, 78, 90, 0⟩, ⟨wideL, 73, 94, 0⟩, ⟨badL, 0, 0, 6⟩]
def casAt (i : Nat) : Cas := cas.getD i ⟨noneL, 0, 0, 0⟩
theorem casAt_get : ∀ k (h : k < cas.length), cas[k] = casAt k := fun k h => by
  unfold casAt
  rw [List.getD_eq_getElem?_getD, List.getElem?_eq_getElem h]; rfl
theorem cas_black : ∀ i, i < 4 → blackR curveL (casAt i).l = (((casAt i).lo, (casAt i).hi), (casAt i).e)
  | 0, _ => by kernel_rfl
  | 1, _ => by kernel_rfl
  | 2, _ => by kernel_rfl
  | 3, _ => by kernel_rfl
  | n + 4, h => by omega
theorem cas_st : ∀ i, i < 4 → (casAt i).l.st.length ≤ bigN
  | 0, _ => by decide
  | 1, _ => by decide
  | 2, _ => by decide
  | 3, _ => by decide
  | n + 4, h => by omega
def want : List (Int × Int) := [(80, 88), (30, 40), (60, 70), (85, 95)]
def wAt (i : Nat) : Int × Int := want.getD i (0, 0)
theorem wAt_get : ∀ k (h : k < want.length), want[k] = wAt k := fun k h => by
  unfold wAt
  rw [List.getD_eq_getElem?_getD, List.getElem?_eq_getElem h]; rfl
theorem want_black : ∀ i, i < 4 → blackR fourC (ld fourL i) = (wAt i, 0)
  | 0, _ => by kernel_rfl
  | 1, _ => by kernel_rfl
  | 2, _ => by kernel_rfl
  | 3, _ => by kernel_rfl
  | n + 4, h => by omega
theorem ex_ord2 : ordR fourC fourL [1, 0, 0, 1] 5 = (0, 0, 4) := by kernel_rfl
def s5 : Scl := ⟨4, 20, 20, 5⟩
theorem ex_e5 : cutE fourC fourL s5 = 0 := by kernel_rfl
theorem ex_all5 : (List.range 201).all (fun i => decide (mostF four4 s5 4 (0 + (i : Int)) ≤ 230)) = true := by kernel_rfl
theorem ex_bef5 : (List.range 20).all (fun i => decide (mostF four4 s5 4 (0 + (i : Int)) < 230)) = true := by kernel_rfl
theorem ex_m5 : mostF four4 s5 4 (0 + ((20 : Nat) : Int)) = 230 := by kernel_rfl
theorem ex_cutB5 : cutB four4 s5 = (230, 20, true) := by
  obtain ⟨hb, hs⟩ := ex_open ex_e5
  unfold cutB
  rw [show s5.n.toNat = 4 from rfl]
  rcases bst_spec (f := mostF four4 s5 4) (a := 0) (fun x => (mostF_B hb s5 4 x).1) 201 with ⟨h1, h2⟩ | ⟨i, h1, h2, h3, h4, h5⟩
  · have := h2 20 (by omega)
    rw [ex_m5] at this
    omega
  · rw [h2]
    have ha := of_decide_eq_true (List.all_eq_true.1 ex_all5 i (List.mem_range.2 (by omega)))
    have hm := h4 20 (by omega)
    rw [ex_m5] at hm
    rcases Nat.lt_trichotomy i 20 with h | h | h
    · have := of_decide_eq_true (List.all_eq_true.1 ex_bef5 i (List.mem_range.2 h))
      omega
    · subst h
      rw [ex_m5]
      rfl
    · have := h5 20 h
      rw [ex_m5] at this
      omega
theorem ex_cut5 : cutR fourC fourL s5 = ([20, 40, 60, 80, 100], 230, 0) := by
  unfold cutR
  rw [if_pos ex_e5, ex_four, ex_cutB5, if_pos rfl]
  have e : cutL four4 s5 20 4 = [20, 40, 60, 80, 100] := by kernel_rfl
  show (cutL four4 s5 20 4, _, _) = _
  rw [e]
end Go.Proofs.Ythiapodcippnoaa
