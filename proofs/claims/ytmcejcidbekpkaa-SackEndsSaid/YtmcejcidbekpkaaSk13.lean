/-
  The document: what is weighed.
-/
import Derived.Test.YtmcejcidbekpkaaSkFacts
import Derived.Test.YtmcejcidbekpkaaSkD
import Derived.Test.YtmcejcidbekpkaaSk1
import Derived.Test.YtmcejcidbekpkaaSk2
import Derived.Test.YtmcejcidbekpkaaSk12
set_option linter.unusedVariables false
set_option maxRecDepth 100000
set_option maxHeartbeats 4000000
set_option linter.unusedSimpArgs false
namespace Go.Proofs.Ytmcejcidbekpkaa
open Go.AF
theorem okL_of {l : List Sk} (h : areSacksB l = true) : okL l := by
  unfold areSacksB at h
  simp only [Bool.and_eq_true, decide_eq_true_eq, Bool.not_eq_true', List.any_eq_false] at h
  refine ⟨by omega, fun s hs => ?_⟩
  have := h.2 s hs
  simp [Sk.bad, Sp.ok] at this
  unfold okSk
  omega
theorem okB_of {n : Nat} {b : List Tk} (h : isBatchB n b = true) : okB b ∧ okT n b := by
  unfold isBatchB at h
  simp only [Bool.and_eq_true, decide_eq_true_eq, Bool.not_eq_true', List.any_eq_false] at h
  refine ⟨⟨by omega, fun t ht => ?_⟩, fun t ht => ?_⟩ <;>
  · have := h.2 t ht
    simp [Tk.bad, Sp.ok] at this
    omega
def validB (l : List Sk) (b : List Tk) : Bool := areSacksB l && isBatchB l.length b
def partV (l : List Sk) (b : List Tk) (kd : Int) : List PV := [.int .i64 (isum (partLo kd l b) l.length / 1000000000), .int .i64 (0 - (0 - isum (partHi kd l b) l.length) / 1000000000)]
def rWeighR (l : List Sk) (b : List Tk) : List PV := if validB l b then [.agg (partV l b 0 ++ partV l b 1 ++ partV l b 2 ++ partV l b 3 ++ partV l b 4), .int .i64 0] else [.agg (List.replicate 10 (.int .i64 0)), .int .i64 1]
theorem rWeigh_ok (l : List Sk) (b : List Tk) (hl : l.length ≤ bigN) (hb : b.length ≤ bigN) : Pure Try.prog 12 [sacksV l, takesV b] (.tuple (rWeighR l b)) := by
  refine Pure.start (N := 32) Try.func12 rfl rfl (Nat.le_of_ble_eq_true rfl) ?_
  refine AWp.seq ?_
  refine AWp.region ?_
  refine AList.c 4 rfl rfl rfl (OpJ.allocOwn rfl zr29 rfl) ?_
  refine AList.c 5 rfl rfl rfl (OpJ.assign rfl rfl) ?_
  refine AList.nil ?_
  refine AWp.seq ?_
  refine AWp.seq ?_
  refine AWp.region ?_
  refine AList.c 6 rfl rfl rfl (OpJ.move rfl rfl) ?_
  refine AList.c 7 rfl rfl rfl (OpJ.callP (rSacks_ok _ ?_) rfl rfl rfl rfl rf19) ?_
  · assumption
  refine AList.c 8 rfl rfl rfl (OpJ.not_ rfl rfl) ?_
  refine AList.c 9 rfl rfl rfl (OpJ.move rfl rfl) ?_
  refine AList.g 10 9 rfl rfl rfl rfl rfl rfl rfl [(0, _)] (fun h => And.intro (.inl rfl) (trivial)) (fun h => (OpJ.move rfl rfl)) ?_
  refine AList.g 11 9 rfl rfl rfl rfl rfl rfl rfl [(1, _)] (fun h => And.intro (.inl rfl) (trivial)) (fun h => (OpJ.move rfl rfl)) ?_
  refine AList.g 12 9 rfl rfl rfl rfl rfl rfl rfl [(10, _), (11, _)] (fun h => And.intro (.inr ⟨_, rfl, h⟩) (And.intro (.inr ⟨_, rfl, h⟩) (trivial))) (fun h => (OpJ.callP (rBatch_ok _ _ ?_ ?_) rfl rfl rfl rfl rf20)) ?_
  · assumption
  · assumption
  refine AList.g 13 9 rfl rfl rfl rfl rfl rfl rfl [(12, _)] (fun h => And.intro (.inr ⟨_, rfl, h⟩) (trivial)) (fun h => (OpJ.not_ rfl rfl)) ?_
  refine AList.c 14 rfl rfl rfl (OpJ.or_ rfl rfl rfl ?_) ?_
  · first | (intro h; rw [h]; rfl) | (intro h; simp_all)
  refine AList.nil ?_
  refine AWp.cond _ rfl (fun hc0 => ?_) (fun hc0 => ?_)
  · skip
    refine AWp.seq ?_
    refine AWp.region ?_
    refine AList.c 15 rfl rfl rfl (OpJ.build rfl bd29 rfl rfl) ?_
    refine AList.c0 rfl rfl (OpJ.store rfl rfl rfl rfl rfl ty29 rfl rfl) ?_
    refine AList.c 5 rfl rfl rfl (OpJ.assign rfl rfl) ?_
    refine AList.nil ?_
    refine AWp.ret ?_
    have hv : validB l b = false := by unfold validB; simp at hc0; rcases hc0 with h | h <;> simp [h]
    refine Fin.manyE (xs := [.agg (List.replicate 10 (.int .i64 0)), .int .i64 1]) rfl (⟨_, _, rfl, ⟨_, _, _, rfl, ty29, rfl⟩, ⟨_, _, rfl, rfl, rfl⟩⟩) rfl ?_
    simp [rWeighR, hv]
  · skip
    have hv : validB l b = true := by unfold validB; simp at hc0; simp [hc0]
    have okl : okL l := okL_of (by unfold validB at hv; simp at hv; exact hv.1)
    have okb := okB_of (n := l.length) (b := b) (by unfold validB at hv; simp at hv; exact hv.2)
    refine AWp.skip ?_
    refine AWp.seq ?_
    refine AWp.region ?_
    refine AList.c 16 rfl rfl rfl (OpJ.move rfl rfl) ?_
    refine AList.c 17 rfl rfl rfl (OpJ.move rfl rfl) ?_
    refine AList.c 18 rfl rfl rfl (OpJ.callP (rpart_ok l b _ okl okb.1 (by decide)) rfl rfl rfl rfl rf41) ?_
    refine AList.c 19 rfl rfl rfl (OpJ.move rfl rfl) ?_
    refine AList.c 20 rfl rfl rfl (OpJ.move rfl rfl) ?_
    refine AList.c 21 rfl rfl rfl (OpJ.callP (rpart_ok l b _ okl okb.1 (by decide)) rfl rfl rfl rfl rf41) ?_
    refine AList.c 22 rfl rfl rfl (OpJ.move rfl rfl) ?_
    refine AList.c 23 rfl rfl rfl (OpJ.move rfl rfl) ?_
    refine AList.c 24 rfl rfl rfl (OpJ.callP (rpart_ok l b _ okl okb.1 (by decide)) rfl rfl rfl rfl rf41) ?_
    refine AList.c 25 rfl rfl rfl (OpJ.move rfl rfl) ?_
    refine AList.c 26 rfl rfl rfl (OpJ.move rfl rfl) ?_
    refine AList.c 27 rfl rfl rfl (OpJ.callP (rpart_ok l b _ okl okb.1 (by decide)) rfl rfl rfl rfl rf41) ?_
    refine AList.c 28 rfl rfl rfl (OpJ.move rfl rfl) ?_
    refine AList.c 29 rfl rfl rfl (OpJ.move rfl rfl) ?_
    refine AList.c 30 rfl rfl rfl (OpJ.callP (rpart_ok l b _ okl okb.1 (by decide)) rfl rfl rfl rfl rf41) ?_
    refine AList.c 31 rfl rfl rfl (OpJ.build rfl bd29 rfl rfl) ?_
    refine AList.c0 rfl rfl (OpJ.store rfl rfl rfl rfl rfl ty29 rfl rfl) ?_
    refine AList.c 5 rfl rfl rfl (OpJ.assign rfl rfl) ?_
    refine AList.nil ?_
    refine AWp.ret ?_
    refine Fin.manyE (xs := [.agg (partV l b 0 ++ partV l b 1 ++ partV l b 2 ++ partV l b 3 ++ partV l b 4), .int .i64 0]) rfl (⟨_, _, rfl, ⟨_, _, _, rfl, ty29, rfl⟩, ⟨_, _, rfl, rfl, rfl⟩⟩) rfl ?_
    simp [rWeighR, hv]
end Go.Proofs.Ytmcejcidbekpkaa
