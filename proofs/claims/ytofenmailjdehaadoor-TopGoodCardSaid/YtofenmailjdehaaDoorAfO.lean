/-
  An element of an own slice at an integer place. No condition; generic over any program.
-/
import Derived.Test.YtofenmailjdehaaDoorAfN
set_option linter.unusedVariables false
namespace Go.AF
theorem To.eqH {P : Program} {N κ : Nat} {T T2 : Tm} {H H2 H3 : List Blk} (h : To P κ N T H T2 H2) (e : H2 = H3) : To P κ N T H T2 H3 := e ▸ h
section
variable {P : Program} {N : Nat} {T : Tm} {H : List Blk} {o : Oper}
theorem OpJ.indexRowI {x y : Operand} {t : TypeId} {kd : IntKind} {sz i len : Nat} {n : Int} (ho : o.op = .indexAddr t x y) (hx : ev T x = some (.row i len)) (hy : ev T y = some (.p (.int kd n))) (ht : isSl P t = true) (he : elI P t = some sz) (hn : 0 ≤ n) (hk : n.toNat < len) : OpJ P N o T H (.ptr i (n.toNat * sz)) H :=
  OpJ.indexRow (k := n.toNat) ho hx (by rw [hy, Int.toNat_of_nonneg hn]) ht he hk
end
end Go.AF
