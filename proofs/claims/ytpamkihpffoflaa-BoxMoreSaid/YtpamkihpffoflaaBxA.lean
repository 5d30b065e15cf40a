/-
  The document's examples, by the kernel; what a statement's arguments may hold.
-/
import Derived.Test.YtpamkihpffoflaaBx18
import Derived.Test.YtpamkihpffoflaaPlB
set_option linter.unusedVariables false
set_option maxRecDepth 100000
namespace Go.Proofs.Ytpamkihpffoflaa
open Go.AF
def sampN : List Int := [2, 1, 1]
def sampL : List Pr := [⟨3, 10⟩, ⟨6, 6⟩, ⟨4, 3⟩]
def sampR : List (List Int) := [[8, 2, 0], [0, 2, 4], [0, 0, 0]]
theorem aw1 : mostR sampN sampL = (4, 7, 0) := by kernel_rfl
theorem aw2 : fillR sampN sampL 4 = (sampR, 0) := by kernel_rfl
theorem aw3 : useR sampN sampL 4 1 = (3, 6, 0) := by kernel_rfl
theorem aw4 : lackR sampN sampL 6 = (7, 5, 0) := by kernel_rfl
theorem aw5 : fillR sampN sampL 5 = ([], 10) := by kernel_rfl
theorem mostS : Pure Try.prog 12 [intsV sampN, rawV sampL] (.tuple [.int .i64 4, .int .i64 7, .int .i64 0]) := by
  have h := bmost_ok sampN sampL (by decide) (by decide)
  rwa [aw1] at h
theorem fillS : Pure Try.prog 16 [intsV sampN, rawV sampL, .int .i64 4] (.tuple [rowsV 3 sampR, .int .i64 0]) := by
  have h := bfill_ok sampN sampL 4 (by decide) (by decide)
  rwa [aw2] at h
theorem fillT : Pure Try.prog 16 [intsV sampN, rawV sampL, .int .i64 5] (.tuple [rowsV 3 [], .int .i64 10]) := by
  have h := bfill_ok sampN sampL 5 (by decide) (by decide)
  rwa [aw5] at h
theorem useS : Pure Try.prog 18 [intsV sampN, rawV sampL, .int .i64 4, .int .i64 1] (.tuple [.agg [.int .i64 3, .int .i64 6], .int .i64 0]) := by
  have h := buse_ok sampN sampL 4 1 (by decide) (by decide)
  rwa [aw3] at h
theorem lackS : Pure Try.prog 14 [intsV sampN, rawV sampL, .int .i64 6] (.tuple [.int .i64 7, .int .i64 5, .int .i64 0]) := by
  have h := bLack_ok sampN sampL 6 (by decide) (by decide)
  rwa [aw4] at h
theorem rowsS : Pure Try.prog 20 [rowsV 3 sampR, rowsV 3 sampR] (.bool true) := by
  have h := rows_ok 3 sampR sampR (by decide) (by decide) (by decide) (by decide)
  rwa [decide_eq_true rfl] at h
theorem fillR_len (need : List Int) (l : List Pr) (b : Int) : (∀ r ∈ (fillR need l b).1, r.length = need.length) ∧ (fillR need l b).1.length ≤ 8 := by
  unfold fillR
  split
  · rename_i hc
    obtain ⟨hV, hb⟩ := checkR_zero hc
    have hL := toPl_ok hV
    split
    · rename_i hz
      have hLI := LInv.ok hL hV.2.2.1 hV.1.2 (by omega) (by omega) hz
      exact ⟨rowsF_mem hL hLI (Nat.le_refl _), by rw [rowsF_length]; exact hL.1⟩
    · exact ⟨(fun r h => by cases h), Nat.zero_le _⟩
  · exact ⟨(fun r h => by cases h), Nat.zero_le _⟩
theorem rowsSame (need : List Int) (l : List Pr) (b : Int) (hn : need.length ≤ bigN) : Pure Try.prog 20 [rowsV need.length (fillR need l b).1, rowsV need.length (fillR need l b).1] (.bool true) := by
  obtain ⟨h1, h2⟩ := fillR_len need l b
  have h := rows_ok need.length (fillR need l b).1 (fillR need l b).1 h1 h1 hn (by unfold bigN; omega)
  rwa [decide_eq_true rfl] at h
theorem pr_of {el : List PV} (h : TyL [.leaf (.int .i64), .leaf (.int .i64)] el) : ∃ p : Pr, el = p.cells := by
  obtain ⟨xs, e1, e2⟩ := ints_of (n := 2) h
  match xs, e1 with
  | [a, b], _ => exact ⟨⟨a, b⟩, e2⟩
theorem i1_of {el : List PV} (h : TyL [.leaf (.int .i64)] el) : ∃ n : Int, el = i1 n := int_of h
end Go.Proofs.Ytpamkihpffoflaa
