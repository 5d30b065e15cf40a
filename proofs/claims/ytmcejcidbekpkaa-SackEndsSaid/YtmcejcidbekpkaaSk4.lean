/-
  The document: weights.
-/
import Derived.Test.YtmcejcidbekpkaaSkFacts
import Derived.Test.YtmcejcidbekpkaaSkD
import Derived.Test.YtmcejcidbekpkaaSk1
import Derived.Test.YtmcejcidbekpkaaSk3
set_option linter.unusedVariables false
set_option maxRecDepth 100000
set_option maxHeartbeats 4000000
set_option linter.unusedSimpArgs false
namespace Go.Proofs.Ytmcejcidbekpkaa
open Go.AF
theorem rWeight_ok (b : List Tk) (k : Int) (hb : okB b) : Pure Try.prog 26 [takesV b, .int .i64 k] (.agg [.int .i64 (psum (loK k) b b.length), .int .i64 (psum (hiK k) b b.length)]) := by
  have hb8 := hb.1
  refine Pure.start (N := 40) Try.func26 rfl rfl (Nat.le_of_ble_eq_true rfl) ?_
  refine AWp.seq ?_
  refine AWp.region ?_
  refine AList.c 4 rfl rfl rfl (OpJ.allocOwn rfl zr25 rfl) ?_
  refine AList.nil ?_
  refine AWp.seq ?_
  refine AWp.region ?_
  refine AList.c 5 rfl rfl rfl (OpJ.allocOwn rfl zr25 rfl) ?_
  refine AList.nil ?_
  refine AWp.seq ?_
  refine AWp.seq ?_
  refine AWp.region ?_
  refine AList.c 6 rfl rfl rfl (OpJ.assign rfl rfl) ?_
  refine AList.nil ?_
  refine AWp.block ?_
  refine AWp.loopH [6, 7, 8, 9, 10, 11, 12, 13, 14, 15, 16, 17, 18, 19, 20, 21, 22, 23, 24, 25, 26, 27, 28, 29, 30, 31, 32, 33, 34, 35, 36, 37, 38] (fun g => [(6, .p (.int .i64 ((g : Nat) : Int)))]) (fun g => [.cells [.p (.int .i64 (0)), .p (.int .i64 (0))] 25, .cells [.p (.int .i64 (psum (loK k) b g)), .p (.int .i64 (psum (hiK k) b g))] 25]) (fun g => g ≤ b.length) (fun g => b.length - g) 0 (Nat.zero_le _) (by simp only [psum_zero]; exact To.sub (Sub.chd (Sub.cons rfl Sub.nil))) (fun i hg => ?_)
  have p1 := loK_B hb k i hg
  have p2 := hiK_B hb k i hg
  refine AWp.seq ?_
  refine AWp.seq ?_
  refine AWp.region ?_
  refine AList.c 7 rfl rfl rfl (OpJ.move rfl rfl) ?_
  refine AList.c 8 rfl rfl rfl (OpJ.move rfl rfl) ?_
  refine AList.c 9 rfl rfl rfl (OpJ.lenSlice rfl rfl sl23 rfl) ?_
  refine AList.c 10 rfl rfl rfl (OpJ.lss rfl rfl rfl) ?_
  refine AList.nil ?_
  refine AWp.cond _ rfl (fun hc0 => ?_) (fun hc0 => ?_)
  · skip
    have hk0 : i < b.length := by simp at hc0; omega
    have ht := hb.2 b[i] (List.getElem_mem _)
    refine AWp.skip ?_
    refine AWp.seq ?_
    refine AWp.block ?_
    refine AWp.seq ?_
    refine AWp.region ?_
    refine AList.c 13 rfl rfl rfl (OpJ.move rfl rfl) ?_
    refine AList.c 14 rfl rfl rfl (OpJ.move rfl rfl) ?_
    refine AList.c 15 rfl rfl rfl (OpJ.indexEl rfl rfl rfl sl23 el23 rfl (fun _ => rfl) (by decide) hk0) ?_
    refine AList.c 16 rfl rfl rfl (OpJ.fieldAddr rfl rfl fd51_0 rfl) ?_
    refine AList.c 17 rfl rfl rfl (OpJ.load rfl rfl ty3 rfl) ?_
    refine AList.c 18 rfl rfl rfl (OpJ.move rfl rfl) ?_
    refine AList.c 19 rfl rfl rfl (OpJ.eql rfl rfl rfl) ?_
    refine AList.nil ?_
    refine AWp.cond _ rfl (fun hc1 => ?_) (fun hc1 => ?_)
    · skip
      refine AWp.regionDraw 19 mixed (by kernel_rfl) (by decide) ?_
      refine AQuiet.cons 20 rfl rfl rfl (OpJ.fieldAddr rfl rfl fd25_0 rfl) ?_
      refine AQuiet.cons 21 rfl rfl rfl (OpJ.load rfl rfl ty3 rfl) ?_
      refine AQuiet.cons 22 rfl rfl rfl (OpJ.move rfl rfl) ?_
      refine AQuiet.cons 23 rfl rfl rfl (OpJ.move rfl rfl) ?_
      refine AQuiet.cons 24 rfl rfl rfl (OpJ.indexEl rfl rfl rfl sl23 el23 rfl (fun _ => rfl) (by decide) hk0) ?_
      refine AQuiet.cons 25 rfl rfl rfl (OpJ.fieldAddr rfl rfl fd51_1 rfl) ?_
      refine AQuiet.cons 26 rfl rfl rfl (OpJ.fieldAddr rfl rfl fd25_0 rfl) ?_
      refine AQuiet.cons 27 rfl rfl rfl (OpJ.load rfl rfl ty3 rfl) ?_
      refine AQuiet.cons 28 rfl rfl rfl (OpJ.add rfl rfl rfl (i64ok ?_)) ?_
      · omega
      refine AQuiet.cons 29 rfl rfl rfl (OpJ.fieldAddr rfl rfl fd25_1 rfl) ?_
      refine AQuiet.cons 30 rfl rfl rfl (OpJ.load rfl rfl ty3 rfl) ?_
      refine AQuiet.cons 31 rfl rfl rfl (OpJ.move rfl rfl) ?_
      refine AQuiet.cons 32 rfl rfl rfl (OpJ.move rfl rfl) ?_
      refine AQuiet.cons 33 rfl rfl rfl (OpJ.indexEl rfl rfl rfl sl23 el23 rfl (fun _ => rfl) (by decide) hk0) ?_
      refine AQuiet.cons 34 rfl rfl rfl (OpJ.fieldAddr rfl rfl fd51_1 rfl) ?_
      refine AQuiet.cons 35 rfl rfl rfl (OpJ.fieldAddr rfl rfl fd25_1 rfl) ?_
      refine AQuiet.cons 36 rfl rfl rfl (OpJ.load rfl rfl ty3 rfl) ?_
      refine AQuiet.cons 37 rfl rfl rfl (OpJ.add rfl rfl rfl (i64ok ?_)) ?_
      · omega
      refine AQuiet.cons 38 rfl rfl rfl (OpJ.build rfl bd25 rfl rfl) ?_
      refine AQuiet.nil ?_
      refine AList.c0 rfl rfl (OpJ.store rfl rfl rfl rfl rfl ty25 rfl rfl) ?_
      refine AList.nil ?_
      refine AWp.region ?_
      refine AList.c 11 rfl rfl rfl (OpJ.move rfl rfl) ?_
      refine AList.c 12 rfl rfl rfl (OpJ.add rfl rfl rfl (i64ok ?_)) ?_
      · omega
      refine AList.c 6 rfl rfl rfl (OpJ.assign rfl rfl) ?_
      refine AList.nil ?_
      refine ⟨i + 1, ?_, ?_, ?_⟩
      · simp at hc0; omega
      · simp at hc0; omega
      refine To.done [0, 1] rfl (by repeat (first | exact Sub.nil | refine Sub.cons rfl ?_)) ?_
      simp only [decide_eq_true_eq, decide_eq_false_iff_not] at hc1
      simp only [psum_succ _ b i hk0, loK, hiK, hc1, if_true, if_false, Int.add_zero]
      rfl
    · skip
      refine AWp.skip ?_
      refine AWp.region ?_
      refine AList.c 11 rfl rfl rfl (OpJ.move rfl rfl) ?_
      refine AList.c 12 rfl rfl rfl (OpJ.add rfl rfl rfl (i64ok ?_)) ?_
      · omega
      refine AList.c 6 rfl rfl rfl (OpJ.assign rfl rfl) ?_
      refine AList.nil ?_
      refine ⟨i + 1, ?_, ?_, ?_⟩
      · simp at hc0; omega
      · simp at hc0; omega
      refine To.done [0, 1] rfl (by repeat (first | exact Sub.nil | refine Sub.cons rfl ?_)) ?_
      simp only [decide_eq_true_eq, decide_eq_false_iff_not] at hc1
      simp only [psum_succ _ b i hk0, loK, hiK, hc1, if_true, if_false, Int.add_zero]
      rfl
  · skip
    obtain rfl : i = b.length := by simp at hc0; omega
    refine AWp.exit ?_
    refine AWp.seq ?_
    refine AWp.region ?_
    refine AList.c 39 rfl rfl rfl (OpJ.load rfl rfl ty25 rfl) ?_
    refine AList.c0 rfl rfl (OpJ.store rfl rfl rfl rfl rfl ty25 rfl rfl) ?_
    refine AList.nil ?_
    refine AWp.ret ?_
    exact Fin.one rfl (⟨_, _, _, rfl, ty25, rfl⟩)
end Go.Proofs.Ytmcejcidbekpkaa
