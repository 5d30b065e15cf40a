/-
  The sets as a slice.
-/
import Derived.Test.YtpamkihpffoflaaBx9
set_option linter.unusedVariables false
set_option maxRecDepth 100000
set_option maxHeartbeats 4000000
set_option linter.unusedSimpArgs false
namespace Go.Proofs.Ytpamkihpffoflaa
open Go.AF
theorem appendSeq_ok (n : Nat) (h1 : 1 ≤ n) (hn : n ≤ 8) : Pure Try.prog 65 [.nilSlice, .func (.func 59) [] [.ip [.int .i64 (n : Int)] 0]] (setsV n) := by
  have hp := pow8 hn
  have hp1 : 2 ^ 1 ≤ 2 ^ n := Nat.pow_le_pow_right (by omega) h1
  have hA : allS n = 2 ^ n - 1 := rfl
  have eA := setsL_length n
  have hpos : 0 < (setsL n).length := by omega
  refine Pure.start (N := 13) Try.func65 rfl rfl (Nat.le_of_ble_eq_true rfl) ?_
  refine AWp.seq ?_
  refine AWp.region ?_
  refine AList.c 2 rfl rfl rfl (OpJ.boxOwn rfl rfl rfl) ?_
  refine AList.c 4 rfl rfl rfl (OpJ.assign rfl rfl) ?_
  refine AList.nil ?_
  refine AWp.seq ?_
  refine AWp.seq ?_
  refine AWp.region ?_
  refine AList.c 6 rfl rfl rfl (OpJ.move rfl rfl) ?_
  refine AList.nil ?_
  refine AWp.block ?_
  refine AWp.to To.pad ?_
  refine AWp.rangeFunc 0 rfl (fun _ => rfl) rf59 (sets_seq n hn) (Nat.le_refl _) (Nat.zero_le _) (fun _ h => by cases h) (fun x hx => by simp at hx; obtain ⟨j, _, rfl⟩ := hx; rfl) rfl (fun k h => h = [.cells [accV 1 k] 83, accB (((((setsL n).take k)).flatMap sn).map .p) 64 k]) (fun c h => False) (fun _ _ h => by rw [h]; rfl) (fun _ _ h => h.elim) rfl ?_ ?_ ?_
  · skip
    intro l tmps k h x hJ hx
    subst hJ
    have hk : k < (setsL n).length := by have := (List.getElem?_eq_some_iff.1 hx).1; simpa using this
    obtain rfl : x = [.p (.int .i64 (((setsL n)[k] : Nat) : Int))] := by rw [List.getElem?_map, List.getElem?_eq_getElem hk] at hx; simpa using hx.symm
    refine AWp.region ?_
    refine AList.c 5 rfl rfl rfl (OpJ.assign rfl rfl) ?_
    refine AList.nil ?_
    refine ⟨rfl, rfl, ?_⟩
    refine AWp.block ?_
    refine AWp.region ?_
    refine AList.c 8 rfl rfl rfl (OpJ.load rfl rfl ty83 rfl) ?_
    refine AList.c 9 rfl rfl rfl (OpJ.move rfl rfl) ?_
    refine AList.c 10 rfl rfl rfl (OpJ.buildImm rfl slz83 (by decide) rfl rfl rfl) ?_
    refine AList.c 11 rfl rfl rfl (OpJ.appendAcc rfl rfl rfl slz83 sl83 rfl ?_ rfl (by decide) rfl by64 (by decide) ?_) ?_
    · rw [List.length_map, flat_len (c := 1) (fun _ => rfl), List.length_take]; show min _ _ * 1 = _ * 1; omega
    · omega
    refine AList.c0 rfl rfl (OpJ.store rfl rfl rfl rfl rfl ty83 rfl rfl) ?_
    refine AList.nil ?_
    refine ⟨_, rfl, To.done [0, 3, 2] rfl Sub.nil ?_⟩
    show [Blk.cells [V.row 1 (k + 1)] 83, Blk.row (renL _ (_ ++ _)) _, _] = _
    rw [renL_app, renL_pure, ← List.take_append_getElem hk, List.flatMap_append, List.map_append]
    rfl
  · skip
    intro h hJ
    subst hJ
    rw [List.length_map, accV_pos hpos, accB_pos hpos, List.take_length]
    refine AWp.seq ?_
    refine AWp.region ?_
    refine AList.c 12 rfl rfl rfl (OpJ.load rfl rfl ty83 rfl) ?_
    refine AList.c 4 rfl rfl rfl (OpJ.assign rfl rfl) ?_
    refine AList.nil ?_
    refine AWp.freeze 1 rfl (allP_map _) ?_
    refine AWp.ret ?_
    exact Fin.one rfl (rfl)
  · skip
    intro c h hx
    exact hx.elim
end Go.Proofs.Ytpamkihpffoflaa
