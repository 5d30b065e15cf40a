/-
  A slice that is built of whole elements. No condition; generic over any program.
-/
import Derived.Test.YtofenmailjdehaaDoorAfM
set_option linter.unusedVariables false
namespace Go.AF
def wholes : Nat → List (List PV) → List (Nat × V)
  | _, [] => []
  | k, c :: cs => (k, .p (.agg c)) :: wholes (k + 1) cs
theorem abuild_whole (len sz : Nat) : ∀ (cs : List (List PV)) (k : Nat) (pre rest : List V), (∀ c ∈ cs, c.length = sz) → (cs.all fun c => cellsOk (.p (.agg c))) = true → pre.length = k * sz → rest.length = cs.length * sz → k + cs.length = len →
    abuild ((List.range len).map fun i => (i * sz, sz)) (pre ++ rest) (wholes k cs) = some (pre ++ cs.flatten.map .p)
  | [], k, pre, rest, _, _, _, h4, _ => by
    have : rest = [] := List.eq_nil_of_length_eq_zero (by simpa using h4)
    subst this
    simp [wholes, abuild]
  | c :: cs, k, pre, rest, h1, h2, h3, h4, h5 => by
    have hc := h1 c (by simp)
    have hck : cellsOk (.p (.agg c)) = true := by rw [List.all_cons, Bool.and_eq_true] at h2; exact h2.1
    have hcs : (cs.all fun c => cellsOk (.p (.agg c))) = true := by rw [List.all_cons, Bool.and_eq_true] at h2; exact h2.2
    rw [List.length_cons, Nat.succ_mul] at h4
    rw [List.length_cons] at h5
    have hk : ((List.range len).map fun i => (i * sz, sz))[k]? = some (k * sz, sz) := by
      rw [List.getElem?_map, List.getElem?_range (by omega)]; rfl
    have hcl : (cellsV (.p (.agg c))).length = sz := by
      show (c.map V.p).length = sz
      rw [List.length_map, hc]
    have hset : setAt (pre ++ rest) (k * sz) (cellsV (.p (.agg c))) = (pre ++ c.map V.p) ++ rest.drop sz := by
      show setAt (pre ++ rest) (k * sz) (c.map V.p) = _
      rw [setAt_set _ _ _ (by rw [List.length_map, List.length_append, hc]; omega), ← h3, List.take_append_of_le_length (Nat.le_refl _), List.take_length, List.length_map, hc, List.drop_append, List.drop_eq_nil_of_le (by omega), Nat.add_sub_cancel_left, List.nil_append]
    unfold wholes abuild
    rw [hk]
    dsimp only
    rw [if_pos ⟨hcl, by rw [hcl, List.length_append]; omega, hck⟩, hset]
    rw [abuild_whole len sz cs (k + 1) (pre ++ c.map V.p) (rest.drop sz) (fun x hx => h1 x (by simp [hx])) hcs (by rw [List.length_append, List.length_map, hc, Nat.succ_mul]; omega) (by rw [List.length_drop]; omega) (by omega)]
    simp
theorem rep_len (z : List PV) : ∀ n : Nat, ((List.replicate n z).flatten).length = n * z.length
  | 0 => by simp
  | n + 1 => by rw [List.replicate_succ, List.flatten_cons, List.length_append, rep_len z n, Nat.succ_mul]; omega
section
variable {P : Program} {N : Nat} {T : Tm} {H : List Blk} {o : Oper}
theorem OpJ.buildWh (cs : List (List PV)) {t e : TypeId} {len : Nat} {parts : Array (Nat × Operand)} {z xs : List PV} (ho : o.op = .buildSlice t len parts) (hs : slI P t = some (e, z)) (hlen : len * z.length ≤ 16777216) (hv : evParts T parts.toList = some (wholes 0 cs))
    (hl : (cs.all fun c => Nat.beq c.length z.length) = true) (hok : (cs.all fun c => cellsOk (.p (.agg c))) = true) (hn : cs.length = len) (hx : cs.flatten = xs) : OpJ P N o T H (.p (.is xs len)) H := by
  subst hx
  have h := abuild_whole len z.length cs 0 [] ((List.replicate len z).flatten.map .p) (fun c hc => Nat.eq_of_beq_eq_true (List.all_eq_true.1 hl c hc)) hok (by simp) (by rw [List.length_map, rep_len, hn]) (by omega)
  rw [List.nil_append, List.nil_append] at h
  exact OpJ.buildImm ho hs hlen hv h (allP_map _)
end
end Go.AF
