/-
  TopCards, plain: cards that tell what batches are made of, and how many pencils were sold.
-/
import Derived.Test.YtgpbpdepkagjiaaDoorRqP
import Derived.Test.YtgpbpdepkagjiaaDoorNqP
section
set_option linter.unusedVariables false
set_option linter.unusedSimpArgs false
namespace Go.Proofs.YtgpbpdepkagjiaaDoor
open Go.AF
def crdOf (l : List Bat) (i : Nat) : Bk.Crd := ⟨2 * (i : Int), (i : Int), ((i % 8 : Nat) : Int), (bt l i).f, (bt l i).s⟩
def crdsOf (l : List Bat) (n : Nat) : List Bk.Crd := (List.range n).map (crdOf l)
theorem crdsOf_succ (l : List Bat) (n : Nat) : crdsOf l (n + 1) = crdsOf l n ++ [crdOf l n] := by unfold crdsOf; rw [List.range_succ, List.map_append]; rfl
theorem crdsOf_len (l : List Bat) (n : Nat) : (crdsOf l n).length = n := by simp [crdsOf]
theorem crdsOf_at (l : List Bat) {n i : Nat} (h : i < n) : Bk.gt Bk.Crd.d (crdsOf l n) i = crdOf l i := by
  rw [← Bk.gt_get Bk.Crd.d i (by rw [crdsOf_len]; exact h)]
  simp [crdsOf]
theorem crdsOf_cells (l : List Bat) (n : Nat) : (crdsOf l (n + 1)).flatMap Bk.Crd.cells = (crdsOf l n).flatMap Bk.Crd.cells ++ (crdOf l n).cells := by
  rw [crdsOf_succ, List.flatMap_append]; simp
theorem crdOf_ok {l : List Bat} (hC : crdOk l) (h8 : ∀ j, j < l.length → (bt l j).f ≤ 255) {i : Nat} (hi : i < l.length) : Bk.crdB (crdOf l i) = true := by
  have h24 := crd24 hC
  obtain ⟨h1, ⟨h2, h3⟩, h4, h5⟩ := hC i hi
  have h6 := h8 i hi
  have h7 : i % 8 < 8 := Nat.mod_lt _ (by decide)
  unfold Bk.crdB Bk.inB crdOf
  simp only [Bool.and_eq_true, decide_eq_true_eq]
  exact ⟨⟨⟨⟨by omega, by omega⟩, by omega, by omega⟩, h2, h6⟩, h4, h5⟩
theorem crdsOf_rise {l : List Bat} (hC : crdOk l) (h8 : ∀ j, j < l.length → (bt l j).f ≤ 255) : ∀ (k s : Nat) (last : Int), s + k ≤ l.length → last < 2 * (s : Int) → Bk.riseB Bk.Crd.number Bk.crdB last ((List.range' s k).map (crdOf l)) = true
  | 0, s, last, _, _ => rfl
  | k + 1, s, last, h1, h2 => by
    have h24 := crd24 hC
    rw [List.range'_succ, List.map_cons]
    unfold Bk.riseB
    rw [crdOf_ok hC h8 (i := s) (by omega), crdsOf_rise hC h8 k (s + 1) _ (by omega) (by show 2 * (s : Int) < _; omega)]
    have e : Bk.inB (Bk.Crd.number (crdOf l s)) (last + 1) 1000000 = true := by
      unfold Bk.inB crdOf
      simp only [Bool.and_eq_true, decide_eq_true_eq]
      omega
    rw [e]; rfl
theorem crdsOf_wr {l : List Bat} (hC : crdOk l) (h8 : ∀ j, j < l.length → (bt l j).f ≤ 255) : Bk.wrC (crdsOf l l.length) = (Bk.crdsTT (crdsOf l l.length) ++ [Bk.sumB (Bk.crdsTT (crdsOf l l.length))], 0) := by
  have h24 := crd24 hC
  refine Bk.wrC_yes ?_
  have hv : Bk.crdsB (crdsOf l l.length) = true := by
    unfold Bk.crdsB crdsOf
    rw [List.range_eq_range']
    exact crdsOf_rise hC h8 l.length 0 (-1) (by omega) (by decide)
  unfold Bk.chkN
  rw [crdsOf_len, hv, if_neg (by omega)]; rfl
/-- What is read again, as far as place g. -/
def agB (l : List Bat) (g : Nat) : List Bat := (List.range l.length).map fun j => if j < g then bt l j else ⟨0, 0⟩
theorem agB_len (l : List Bat) (g : Nat) : (agB l g).length = l.length := by simp [agB]
theorem agB_0 (l : List Bat) : (List.replicate l.length [PV.int .i64 0, PV.int .i64 0]).flatten = (agB l 0).flatMap Bat.cells := by
  have e : agB l 0 = List.replicate l.length ⟨0, 0⟩ := by
    unfold agB
    apply List.ext_getElem
    · simp
    · intro i h1 h2; simp
  rw [e, List.flatMap_def, List.map_replicate]; rfl
theorem agB_get (l : List Bat) (g i : Nat) (h : i < (agB l g).length) : (agB l g)[i] = if i < g then bt l i else ⟨0, 0⟩ := by simp [agB]
theorem agB_succ (l : List Bat) {g : Nat} (h : g < l.length) : (agB l g).set g (bt l g) = agB l (g + 1) := by
  apply List.ext_getElem
  · simp [agB]
  · intro i h1 h2
    rw [List.getElem_set, agB_get, agB_get]
    by_cases e : g = i
    · subst e; rw [if_pos rfl, if_pos (by omega)]
    · rw [if_neg e]
      by_cases e2 : i < g
      · rw [if_pos e2, if_pos (by omega)]
      · rw [if_neg e2, if_neg (by omega)]
theorem agB_end (l : List Bat) : agB l l.length = l := by
  apply List.ext_getElem
  · simp [agB]
  · intro i h1 h2
    rw [agB_get, if_pos h2, bt_get i h2]
theorem row_ag (l : List Bat) : V.p (.is ((agB l l.length).flatMap Bat.cells) l.length) = V.p (batV l) := by rw [agB_end]; rfl
def awT : Bk.Bs := [55, 58, 32, 48, 45, 51, 32, 53, 32, 56, 120, 50, 10]
def awS : Bk.Bs := [98, 97, 116, 99, 104, 32, 49, 53, 10, 115, 116, 114, 101, 110, 103, 116, 104, 32, 49, 48, 48, 10, 119, 101, 97, 114, 32, 48, 46, 46, 53, 10]
theorem aw_P : Bk.wrP [⟨7, [0, 1, 2, 3, 5, 8, 8]⟩] = (awT, 0) := by decide +kernel
theorem aw_R : Bk.wrR [⟨15, [], ⟨100, 100⟩, ⟨0, 5⟩⟩] = (awS, 0) := by decide +kernel
def awB : List Bat := [⟨0, 0⟩, ⟨0, 0⟩, ⟨3, 0⟩]
theorem aw_B : fromN awB (backN awB) 2 = 7 ∧ fromE awB 2 = 0 := by decide +kernel
end Go.Proofs.YtgpbpdepkagjiaaDoor
end
