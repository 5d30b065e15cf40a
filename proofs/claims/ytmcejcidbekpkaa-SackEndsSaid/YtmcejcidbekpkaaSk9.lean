/-
  What is beyond a share; what water lacks.
-/
import Derived.Test.YtmcejcidbekpkaaSkFacts
import Derived.Test.YtmcejcidbekpkaaSkD
import Derived.Test.YtmcejcidbekpkaaSk1
import Derived.Test.YtmcejcidbekpkaaSk8
set_option linter.unusedVariables false
set_option maxRecDepth 100000
set_option maxHeartbeats 4000000
set_option linter.unusedSimpArgs false
namespace Go.Proofs.Ytmcejcidbekpkaa
open Go.AF
theorem beyond1_ok (n w c l : Int) (hn : 0 ≤ n ∧ n ≤ 1000) (hs : okSt w c l) : Pure Try.prog 70 [.agg [.int .i64 w, .int .i64 c, .int .i64 l], .ip [.int .i64 n] 0] (.int .i64 (overF n w c l)) := by
  refine Pure.start (N := 7) Try.func70 rfl rfl (Nat.le_of_ble_eq_true rfl) ?_
  refine AWp.seq ?_
  refine AWp.region ?_
  refine AList.c 2 rfl rfl rfl (OpJ.boxImm rfl rfl rfl) ?_
  refine AList.c 3 rfl rfl rfl (OpJ.assign rfl rfl) ?_
  refine AList.nil ?_
  refine AWp.seq ?_
  refine AWp.region ?_
  refine AList.c 4 rfl rfl rfl (OpJ.load rfl rfl ty71 rfl) ?_
  refine AList.c 5 rfl rfl rfl (OpJ.load rfl rfl ty3 rfl) ?_
  refine AList.c 6 rfl rfl rfl (OpJ.callP (over_ok _ _ _ _ ?_ ?_) rfl rfl rfl rfl rf71) ?_
  · assumption
  · assumption
  refine AList.c 3 rfl rfl rfl (OpJ.assign rfl rfl) ?_
  refine AList.nil ?_
  refine AWp.ret ?_
  exact Fin.one rfl (rfl)
theorem lacks1_ok (n w c l : Int) (hn : 0 ≤ n ∧ n ≤ 1000) (hs : okSt w c l) : Pure Try.prog 72 [.agg [.int .i64 w, .int .i64 c, .int .i64 l], .ip [.int .i64 n] 0] (.int .i64 (n - w)) := by
  obtain ⟨hw, hc, hl⟩ := id hs
  refine Pure.start (N := 8) Try.func72 rfl rfl (Nat.le_of_ble_eq_true rfl) ?_
  refine AWp.seq ?_
  refine AWp.region ?_
  refine AList.c 2 rfl rfl rfl (OpJ.boxImm rfl rfl rfl) ?_
  refine AList.c 3 rfl rfl rfl (OpJ.assign rfl rfl) ?_
  refine AList.nil ?_
  refine AWp.seq ?_
  refine AWp.region ?_
  refine AList.c 4 rfl rfl rfl (OpJ.load rfl rfl ty3 rfl) ?_
  refine AList.c 5 rfl rfl rfl (OpJ.fieldAddr rfl rfl fd71_0 rfl) ?_
  refine AList.c 6 rfl rfl rfl (OpJ.load rfl rfl ty3 rfl) ?_
  refine AList.c 7 rfl rfl rfl (OpJ.sub_ rfl rfl rfl (i64ok ?_)) ?_
  · omega
  refine AList.c 3 rfl rfl rfl (OpJ.assign rfl rfl) ?_
  refine AList.nil ?_
  refine AWp.ret ?_
  exact Fin.one rfl (rfl)
theorem beyond_ok (ms : List (Int × (Sk × Sp))) (n : Int) (hn : 0 ≤ n ∧ n ≤ 1000) (hm : okM ms) : Pure Try.prog 44 [mapP (PV.int .i64) gpS ms, .int .i64 n] (.agg [.int .i64 (ms.map (lowS (stF (overF n)))).sum, .int .i64 (ms.map (highS (stF (overF n)))).sum]) := by
  refine Pure.start (N := 8) Try.func44 rfl rfl (Nat.le_of_ble_eq_true rfl) ?_
  refine AWp.seq ?_
  refine AWp.region ?_
  refine AList.c 3 rfl rfl rfl (OpJ.boxImm rfl rfl rfl) ?_
  refine AList.c 4 rfl rfl rfl (OpJ.allocOwn rfl zr25 rfl) ?_
  refine AList.nil ?_
  refine AWp.seq ?_
  refine AWp.region ?_
  refine AList.c 5 rfl rfl rfl (OpJ.move rfl rfl) ?_
  refine AList.c 6 rfl rfl rfl (OpJ.makeFunc rfl rfl rfl) ?_
  refine AList.c 7 rfl rfl rfl (OpJ.callP (sum_ok ms (.func 70) [] [.ip [.int .i64 n] 0] (stF (overF n)) ?_ ?_ ?_ ?_) rfl rfl rfl rfl rf38) ?_
  · exact hm.1
  · exact hm.2.1
  · exact fun m hmm j _ => by have h := (hm.2.2 m hmm).state j; unfold stF; have := overB hn h; omega
  · exact fun m hmm j _ => ⟨70, [stateV m.2.1 j, .ip [.int .i64 n] 0], rfl, rf70, beyond1_ok n _ _ _ hn ((hm.2.2 m hmm).state j)⟩
  refine AList.c0 rfl rfl (OpJ.store rfl rfl rfl rfl rfl ty25 rfl rfl) ?_
  refine AList.nil ?_
  refine AWp.ret ?_
  exact Fin.one rfl (⟨_, _, _, rfl, ty25, rfl⟩)
theorem lacks_ok (ms : List (Int × (Sk × Sp))) (n : Int) (hn : 0 ≤ n ∧ n ≤ 1000) (hm : okM ms) : Pure Try.prog 48 [mapP (PV.int .i64) gpS ms, .int .i64 n] (.agg [.int .i64 (ms.map (lowS (stF (fun w _ _ => n - w)))).sum, .int .i64 (ms.map (highS (stF (fun w _ _ => n - w)))).sum]) := by
  refine Pure.start (N := 8) Try.func48 rfl rfl (Nat.le_of_ble_eq_true rfl) ?_
  refine AWp.seq ?_
  refine AWp.region ?_
  refine AList.c 3 rfl rfl rfl (OpJ.boxImm rfl rfl rfl) ?_
  refine AList.c 4 rfl rfl rfl (OpJ.allocOwn rfl zr25 rfl) ?_
  refine AList.nil ?_
  refine AWp.seq ?_
  refine AWp.region ?_
  refine AList.c 5 rfl rfl rfl (OpJ.move rfl rfl) ?_
  refine AList.c 6 rfl rfl rfl (OpJ.makeFunc rfl rfl rfl) ?_
  refine AList.c 7 rfl rfl rfl (OpJ.callP (sum_ok ms (.func 72) [] [.ip [.int .i64 n] 0] (stF (fun w _ _ => n - w)) ?_ ?_ ?_ ?_) rfl rfl rfl rfl rf38) ?_
  · exact hm.1
  · exact hm.2.1
  · exact fun m hmm j _ => by have h := (hm.2.2 m hmm).state j; unfold stF; have := h.1; dsimp only; omega
  · exact fun m hmm j _ => ⟨72, [stateV m.2.1 j, .ip [.int .i64 n] 0], rfl, rf72, lacks1_ok n _ _ _ hn ((hm.2.2 m hmm).state j)⟩
  refine AList.c0 rfl rfl (OpJ.store rfl rfl rfl rfl rfl ty25 rfl rfl) ?_
  refine AList.nil ?_
  refine AWp.ret ?_
  exact Fin.one rfl (⟨_, _, _, rfl, ty25, rfl⟩)
end Go.Proofs.Ytmcejcidbekpkaa
