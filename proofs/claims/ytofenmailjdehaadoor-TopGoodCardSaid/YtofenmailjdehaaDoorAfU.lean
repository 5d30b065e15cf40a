/-
  Storing one cell at a place of an own block. No condition; generic over any program.
-/
import Derived.Test.YtofenmailjdehaaDoorAfT
set_option linter.unusedVariables false
namespace Go.AF
section
variable {P : Program} {R : Option Nat} {N κ : Nat} {Q : Post} {T : Tm} {H H2 : List Blk} {o : Oper}
theorem OpJ.storeAt {x y : Operand} {t : TypeId} {n i off k : Nat} {v : V} {cs cs2 : List V} {e : TypeId} (ho : o.op = .store t x y) (hx : ev T x = some (.ptr i off)) (hy : ev T y = some v) (hk : cellsOk v = true) (h1 : (cellsV v).all oneV = true) (hv : cellsV v = [v])
    (ht : tyI P t = some (false, n)) (hn : 1 = n) (hH : H[i]? = some (.cells cs e)) (hoff : off = k) (hlt : k < cs.length) (hs : cs.set k v = cs2) (hH2 : H.set i (.cells cs2 e) = H2) : OpJ P N o T H .top H2 := by
  subst hoff hs hH2
  refine OpJ.store ho hx hy hk h1 ht (by rw [hv]; exact hn) ?_
  rw [hv]
  simp only [astore, hH, List.length_singleton]
  rw [if_pos (by omega)]
  rfl
end
end Go.AF
