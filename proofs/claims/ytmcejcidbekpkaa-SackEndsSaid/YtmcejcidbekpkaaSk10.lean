/-
  The document: what water lacks.
-/
import Derived.Test.YtmcejcidbekpkaaSkFacts
import Derived.Test.YtmcejcidbekpkaaSkD
import Derived.Test.YtmcejcidbekpkaaSk1
import Derived.Test.YtmcejcidbekpkaaSk4
set_option linter.unusedVariables false
set_option maxRecDepth 100000
set_option maxHeartbeats 4000000
set_option linter.unusedSimpArgs false
namespace Go.Proofs.Ytmcejcidbekpkaa
open Go.AF
theorem rlacks_ok (l : List Sk) (b : List Tk) (n : Int) (hl : okL l) (hb : okB b) (hn : 0 ≤ n ∧ n ≤ 1000) : Pure Try.prog 50 [sacksV l, takesV b, .int .i64 n] (.tuple [.int .i64 (isum (lackLo l b n) l.length), .int .i64 (isum (lackHi l b n) l.length)]) := by
  have hl8 := hl.1
  have hB : ∀ i, i < l.length → _ := fun i hi => lackB (l := l) (b := b) (n := n) hb hn hi (hl.2 l[i] (List.getElem_mem _))
  refine Pure.start (N := 63) Try.func50 rfl rfl (Nat.le_of_ble_eq_true rfl) ?_
  refine AWp.seq ?_
  refine AWp.region ?_
  refine AList.c 6 rfl rfl rfl (OpJ.assign rfl rfl) ?_
  refine AList.c 7 rfl rfl rfl (OpJ.assign rfl rfl) ?_
  refine AList.nil ?_
  refine AWp.seq ?_
  refine AWp.region ?_
  refine AList.c 8 rfl rfl rfl (OpJ.assign rfl rfl) ?_
  refine AList.c 9 rfl rfl rfl (OpJ.assign rfl rfl) ?_
  refine AList.nil ?_
  refine AWp.seq ?_
  refine AWp.seq ?_
  refine AWp.region ?_
  refine AList.c 10 rfl rfl rfl (OpJ.assign rfl rfl) ?_
  refine AList.nil ?_
  refine AWp.block ?_
  refine AWp.loopK [8, 9, 10, 11, 12, 13, 14, 15, 16, 17, 18, 19, 20, 21, 22, 23, 24, 25, 26, 27, 28, 29, 30, 31, 32, 33, 34, 35, 36, 37, 38, 39, 40, 41, 42, 43, 44, 45, 46, 47, 48, 49, 50, 51, 52, 53, 54, 55, 56, 57, 58, 59, 60] (fun g => [(10, .p (.int .i64 ((g : Nat) : Int))), (8, .p (.int .i64 (isum (lackLo l b n) g))), (9, .p (.int .i64 (isum (lackHi l b n) g)))]) (fun g => g ≤ l.length) (fun g => l.length - g) 0 (Nat.zero_le _) (Sub.cons rfl (Sub.cons rfl (Sub.cons rfl (Sub.nil)))) (fun i hg => ?_)
  refine AWp.seq ?_
  refine AWp.seq ?_
  refine AWp.region ?_
  refine AList.c 14 rfl rfl rfl (OpJ.move rfl rfl) ?_
  refine AList.c 15 rfl rfl rfl (OpJ.move rfl rfl) ?_
  refine AList.c 16 rfl rfl rfl (OpJ.lenSlice rfl rfl sl22 rfl) ?_
  refine AList.c 17 rfl rfl rfl (OpJ.lss rfl rfl rfl) ?_
  refine AList.nil ?_
  refine AWp.cond _ rfl (fun hc0 => ?_) (fun hc0 => ?_)
  · skip
    have hk0 : i < l.length := by simp at hc0; omega
    have hs := hl.2 l[i] (List.getElem_mem _)
    have hw := hs.1
    have h1 := wB hb i
    unfold wLo wHi at h1
    have q1 := mulA (a := n - l[i].w.hi) (A := 1000) (B := 800000) (by omega) h1.1
    have q2 := mulA (a := n - l[i].w.hi) (A := 1000) (B := 800000) (by omega) h1.2
    have q3 := mulA (a := n - l[i].w.lo) (A := 1000) (B := 800000) (by omega) h1.1
    have q4 := mulA (a := n - l[i].w.lo) (A := 1000) (B := 800000) (by omega) h1.2
    have p1 := isum_B (f := lackLo l b n) (A := -800000000) (B := 800000000) i (fun j hj => (hB j (by omega)).1)
    have p2 := isum_B (f := lackHi l b n) (A := -800000000) (B := 800000000) i (fun j hj => (hB j (by omega)).2)
    refine AWp.skip ?_
    refine AWp.seq ?_
    refine AWp.block ?_
    refine AWp.seq ?_
    refine AWp.region ?_
    refine AList.c 20 rfl rfl rfl (OpJ.move rfl rfl) ?_
    refine AList.c 21 rfl rfl rfl (OpJ.move rfl rfl) ?_
    refine AList.c 22 rfl rfl rfl (OpJ.callP (rWeight_ok b (i : Int) hb) rfl rfl rfl rfl rf26) ?_
    refine AList.c 11 rfl rfl rfl (OpJ.allocOwn rfl zr25 rfl) ?_
    refine AList.c0 rfl rfl (OpJ.store rfl rfl rfl rfl rfl ty25 rfl rfl) ?_
    refine AList.nil ?_
    refine AWp.seq ?_
    refine AWp.regionDraw 18 mixed (by kernel_rfl) (by decide) ?_
    refine AQuiet.cons 23 rfl rfl rfl (OpJ.move rfl rfl) ?_
    refine AQuiet.cons 24 rfl rfl rfl (OpJ.move rfl rfl) ?_
    refine AQuiet.cons 25 rfl rfl rfl (OpJ.move rfl rfl) ?_
    refine AQuiet.cons 26 rfl rfl rfl (OpJ.indexEl rfl rfl rfl sl22 el22 rfl (fun _ => rfl) (by decide) hk0) ?_
    refine AQuiet.cons 27 rfl rfl rfl (OpJ.fieldAddr rfl rfl fd57_0 rfl) ?_
    refine AQuiet.cons 28 rfl rfl rfl (OpJ.fieldAddr rfl rfl fd25_1 rfl) ?_
    refine AQuiet.cons 29 rfl rfl rfl (OpJ.load rfl rfl ty3 rfl) ?_
    refine AQuiet.cons 30 rfl rfl rfl (OpJ.sub_ rfl rfl rfl (i64ok ?_)) ?_
    · omega
    refine AQuiet.cons 31 rfl rfl rfl (OpJ.move rfl rfl) ?_
    refine AQuiet.cons 32 rfl rfl rfl (OpJ.move rfl rfl) ?_
    refine AQuiet.cons 33 rfl rfl rfl (OpJ.move rfl rfl) ?_
    refine AQuiet.cons 34 rfl rfl rfl (OpJ.indexEl rfl rfl rfl sl22 el22 rfl (fun _ => rfl) (by decide) hk0) ?_
    refine AQuiet.cons 35 rfl rfl rfl (OpJ.fieldAddr rfl rfl fd57_0 rfl) ?_
    refine AQuiet.cons 36 rfl rfl rfl (OpJ.fieldAddr rfl rfl fd25_0 rfl) ?_
    refine AQuiet.cons 37 rfl rfl rfl (OpJ.load rfl rfl ty3 rfl) ?_
    refine AQuiet.cons 38 rfl rfl rfl (OpJ.sub_ rfl rfl rfl (i64ok ?_)) ?_
    · omega
    refine AQuiet.cons 12 rfl rfl rfl (OpJ.assign rfl rfl) ?_
    refine AQuiet.cons 13 rfl rfl rfl (OpJ.assign rfl rfl) ?_
    refine AQuiet.nil ?_
    refine AList.nil ?_
    refine AWp.seq ?_
    refine AWp.region ?_
    refine AList.c 39 rfl rfl rfl (OpJ.move rfl rfl) ?_
    refine AList.c 40 rfl rfl rfl (OpJ.fieldAddr rfl rfl fd25_0 rfl) ?_
    refine AList.c 41 rfl rfl rfl (OpJ.load rfl rfl ty3 rfl) ?_
    refine AList.c 42 rfl rfl rfl (OpJ.move rfl rfl) ?_
    refine AList.c 43 rfl rfl rfl (OpJ.mul rfl rfl rfl (i64ok ?_)) ?_
    · omega
    refine AList.c 44 rfl rfl rfl (OpJ.fieldAddr rfl rfl fd25_1 rfl) ?_
    refine AList.c 45 rfl rfl rfl (OpJ.load rfl rfl ty3 rfl) ?_
    refine AList.c 46 rfl rfl rfl (OpJ.move rfl rfl) ?_
    refine AList.c 47 rfl rfl rfl (OpJ.mul rfl rfl rfl (i64ok ?_)) ?_
    · omega
    refine AList.c 48 rfl rfl rfl (OpJ.min2 rfl rfl rfl) ?_
    refine AList.c 49 rfl rfl rfl (OpJ.add rfl rfl rfl (i64ok ?_)) ?_
    · omega
    refine AList.c 8 rfl rfl rfl (OpJ.assign rfl rfl) ?_
    refine AList.nil ?_
    refine AWp.region ?_
    refine AList.c 50 rfl rfl rfl (OpJ.move rfl rfl) ?_
    refine AList.c 51 rfl rfl rfl (OpJ.fieldAddr rfl rfl fd25_0 rfl) ?_
    refine AList.c 52 rfl rfl rfl (OpJ.load rfl rfl ty3 rfl) ?_
    refine AList.c 53 rfl rfl rfl (OpJ.move rfl rfl) ?_
    refine AList.c 54 rfl rfl rfl (OpJ.mul rfl rfl rfl (i64ok ?_)) ?_
    · omega
    refine AList.c 55 rfl rfl rfl (OpJ.fieldAddr rfl rfl fd25_1 rfl) ?_
    refine AList.c 56 rfl rfl rfl (OpJ.load rfl rfl ty3 rfl) ?_
    refine AList.c 57 rfl rfl rfl (OpJ.move rfl rfl) ?_
    refine AList.c 58 rfl rfl rfl (OpJ.mul rfl rfl rfl (i64ok ?_)) ?_
    · omega
    refine AList.c 59 rfl rfl rfl (OpJ.max2 rfl rfl rfl) ?_
    refine AList.c 60 rfl rfl rfl (OpJ.add rfl rfl rfl (i64ok ?_)) ?_
    · omega
    refine AList.c 9 rfl rfl rfl (OpJ.assign rfl rfl) ?_
    refine AList.nil ?_
    refine AWp.region ?_
    refine AList.c 18 rfl rfl rfl (OpJ.move rfl rfl) ?_
    refine AList.c 19 rfl rfl rfl (OpJ.add rfl rfl rfl (i64ok ?_)) ?_
    · omega
    refine AList.c 10 rfl rfl rfl (OpJ.assign rfl rfl) ?_
    refine AList.nil ?_
    refine ⟨i + 1, ?_, ?_, ?_⟩
    · simp at hc0; omega
    · simp at hc0; omega
    refine To.done [] rfl ?_ rfl
    refine Sub.cons rfl (Sub.cons ?_ (Sub.cons ?_ (by repeat (first | exact Sub.nil | refine Sub.cons rfl ?_))))
    · rw [isum, lackLo, List.getElem?_eq_getElem hk0]; rfl
    · rw [isum, lackHi, List.getElem?_eq_getElem hk0]; rfl
  · skip
    obtain rfl : i = l.length := by simp at hc0; omega
    refine AWp.exit ?_
    refine AWp.seq ?_
    refine AWp.region ?_
    refine AList.c 61 rfl rfl rfl (OpJ.move rfl rfl) ?_
    refine AList.c 62 rfl rfl rfl (OpJ.move rfl rfl) ?_
    refine AList.c 6 rfl rfl rfl (OpJ.assign rfl rfl) ?_
    refine AList.c 7 rfl rfl rfl (OpJ.assign rfl rfl) ?_
    refine AList.nil ?_
    refine AWp.ret ?_
    exact Fin.many (xs := [.int .i64 (isum (lackLo l b n) l.length), .int .i64 (isum (lackHi l b n) l.length)]) rfl (⟨_, _, rfl, rfl, ⟨_, _, rfl, rfl, rfl⟩⟩) rfl
end Go.Proofs.Ytmcejcidbekpkaa
