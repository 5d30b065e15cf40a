/-
  TopSheets, plain: reports of what leads are made of; how many lines they have.
-/
import Derived.Test.YtbnemnhmejmeeaaGreatDoorSqP
import Derived.Test.YtbnemnhmejmeeaaGreatDoorNqP
import Derived.Test.YtbnemnhmejmeeaaGreatDoorRqP
section
set_option linter.unusedVariables false
set_option linter.unusedSimpArgs false
namespace Go.Proofs.YtbnemnhmejmeeaaGreatDoor
open Go.AF
def kOf (s : Sh.Stk) : Bk.Stk := ⟨⟨s.rlo, s.rhi⟩, ⟨s.plo, s.phi⟩⟩
def rOf (a : Nat) (l : List Sh.Lds) (i : Nat) : Bk.Rpt := ⟨(a : Int) + 3 * (i : Int), (Sh.ld l i).st.map kOf, ⟨(Sh.ld l i).slo, (Sh.ld l i).shi⟩, ⟨(Sh.ld l i).wlo, (Sh.ld l i).whi⟩⟩
def rsOf (a : Nat) (l : List Sh.Lds) (n : Nat) : List Bk.Rpt := (List.range n).map (rOf a l)
/-- How many lines the reports have. -/
def lnN (l : List Sh.Lds) : Nat → Nat
  | 0 => 0
  | n + 1 => lnN l n + (3 + (Sh.ld l n).st.length)
theorem count_not {x : Bk.Bs} (h : ∀ b ∈ x, b ≠ 10) : x.count 10 = 0 := List.count_eq_zero.2 fun e => h _ e rfl
theorem count_lines : ∀ (ls : List Bk.Bs), (∀ x ∈ ls, ∀ b ∈ x, b ≠ 10) → (ls.flatMap fun x => x ++ [10]).count 10 = ls.length
  | [], _ => rfl
  | x :: ls, h => by
    rw [List.flatMap_cons, List.count_append, List.count_append, count_not (h x List.mem_cons_self), count_lines ls fun y hy => h y (List.mem_cons_of_mem _ hy)]
    simp; omega
/-- The leads again, of what was read. -/
def ldY (rs : List Bk.Rpt) (l : List Sh.Lds) (i : Nat) : PV := .agg [.int .i64 (Sh.ld l i).glo, .int .i64 (Sh.ld l i).ghi, .int .i64 (Sh.ld l i).clo, .int .i64 (Sh.ld l i).chi, .int .i64 (Sh.ld l i).tol, Bk.stksV (Bk.gt Bk.Rpt.d rs i).strokes, .int .i64 (Bk.gt Bk.Rpt.d rs i).strength.lo, .int .i64 (Bk.gt Bk.Rpt.d rs i).strength.hi, .int .i64 (Bk.gt Bk.Rpt.d rs i).wear.lo, .int .i64 (Bk.gt Bk.Rpt.d rs i).wear.hi, .int .i64 (Sh.ld l i).many]
def awT : Bk.Bs := [55, 58, 32, 48, 45, 51, 32, 53, 32, 56, 120, 50, 10]
def awS : Bk.Bs := [98, 97, 116, 99, 104, 32, 49, 53, 10, 115, 116, 114, 101, 110, 103, 116, 104, 32, 49, 48, 48, 10, 119, 101, 97, 114, 32, 48, 46, 46, 53, 10]
theorem aw_P : Bk.wrP [⟨7, [0, 1, 2, 3, 5, 8, 8]⟩] = (awT, 0) := by decide +kernel
theorem aw_R : Bk.wrR [⟨15, [], ⟨100, 100⟩, ⟨0, 5⟩⟩] = (awS, 0) := by decide +kernel
def awB : List Rx.Bat := [⟨0, 0⟩, ⟨0, 0⟩, ⟨3, 0⟩]
theorem aw_B : Rx.fromN awB (Rx.backN awB) 2 = 7 ∧ Rx.fromE awB 2 = 0 := by decide +kernel
end Go.Proofs.YtbnemnhmejmeeaaGreatDoor
end
