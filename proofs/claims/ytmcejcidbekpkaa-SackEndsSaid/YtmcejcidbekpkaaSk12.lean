/-
  The document: a part.
-/
import Derived.Test.YtmcejcidbekpkaaSkFacts
import Derived.Test.YtmcejcidbekpkaaSkD
import Derived.Test.YtmcejcidbekpkaaSk1
import Derived.Test.YtmcejcidbekpkaaSk3
import Derived.Test.YtmcejcidbekpkaaSk4
set_option linter.unusedVariables false
set_option maxRecDepth 100000
set_option maxHeartbeats 4000000
set_option linter.unusedSimpArgs false
namespace Go.Proofs.Ytmcejcidbekpkaa
open Go.AF
def lstF (f : Nat → Int) : Nat → Int
  | 0 => f 0
  | n + 1 => min (lstF f n) (f n)
def mstF (f : Nat → Int) : Nat → Int
  | 0 => 0
  | n + 1 => max (mstF f n) (f n)
theorem lstF_B {f : Nat → Int} {B : Int} (h : ∀ j, 0 ≤ f j ∧ f j ≤ B) : ∀ n, 0 ≤ lstF f n ∧ lstF f n ≤ B
  | 0 => h 0
  | n + 1 => by have := lstF_B h n; have := h n; simp only [lstF]; omega
theorem mstF_B {f : Nat → Int} {B : Int} (h : ∀ j, 0 ≤ f j ∧ f j ≤ B) : ∀ n, 0 ≤ mstF f n ∧ mstF f n ≤ B
  | 0 => by have := h 0; simp only [mstF]; omega
  | n + 1 => by have := mstF_B h n; have := h n; simp only [mstF]; omega
def ofC (kd : Int) (s : Sk) (k : Nat) : Int := ofF kd (s.cw k) (s.cc k) (s.cl k)
def partLo (kd : Int) (l : List Sk) (b : List Tk) (i : Nat) : Int := wLo b i * lstF (ofC kd (l[i]?.getD zeroSk)) 8
def partHi (kd : Int) (l : List Sk) (b : List Tk) (i : Nat) : Int := wHi b i * mstF (ofC kd (l[i]?.getD zeroSk)) 8
theorem partB {l : List Sk} {b : List Tk} {kd : Int} (hb : okB b) {i : Nat} (hi : i < l.length) (hl : okSk l[i]) : (0 ≤ partLo kd l b i ∧ partLo kd l b i ≤ 1600000000000000) ∧ (0 ≤ partHi kd l b i ∧ partHi kd l b i ≤ 1600000000000000) := by
  have h1 := wB hb i
  unfold partLo partHi
  rw [List.getElem?_eq_getElem hi, Option.getD_some]
  have hf : ∀ j, 0 ≤ ofC kd l[i] j ∧ ofC kd l[i] j ≤ 2000000000 := fun j => ofB (hl.corner j)
  exact ⟨mulB (A := 800000) (B := 2000000000) h1.1 (lstF_B hf 8), mulB (A := 800000) (B := 2000000000) h1.2 (mstF_B hf 8)⟩
theorem rpart_ok (l : List Sk) (b : List Tk) (kd : Int) (hl : okL l) (hb : okB b) (hk : 0 ≤ kd ∧ kd ≤ 4) : Pure Try.prog 41 [sacksV l, takesV b, .int .i64 kd] (.agg [.int .i64 (isum (partLo kd l b) l.length / 1000000000), .int .i64 (0 - (0 - isum (partHi kd l b) l.length) / 1000000000)]) := by
  have hl8 := hl.1
  have hB : ∀ i, i < l.length → _ := fun i hi => partB (l := l) (b := b) (kd := kd) hb hi (hl.2 l[i] (List.getElem_mem _))
  refine Pure.start (N := 90) Try.func41 rfl rfl (Nat.le_of_ble_eq_true rfl) ?_
  refine AWp.seq ?_
  refine AWp.region ?_
  refine AList.c 6 rfl rfl rfl (OpJ.allocOwn rfl zr25 rfl) ?_
  refine AList.nil ?_
  refine AWp.seq ?_
  refine AWp.region ?_
  refine AList.c 7 rfl rfl rfl (OpJ.assign rfl rfl) ?_
  refine AList.c 8 rfl rfl rfl (OpJ.assign rfl rfl) ?_
  refine AList.nil ?_
  refine AWp.seq ?_
  refine AWp.seq ?_
  refine AWp.region ?_
  refine AList.c 9 rfl rfl rfl (OpJ.assign rfl rfl) ?_
  refine AList.nil ?_
  refine AWp.block ?_
  refine AWp.loopK [7, 8, 9, 10, 11, 12, 13, 14, 15, 16, 17, 18, 19, 20, 21, 22, 23, 24, 25, 26, 27, 28, 29, 30, 31, 32, 33, 34, 35, 36, 37, 38, 39, 40, 41, 42, 43, 44, 45, 46, 47, 48, 49, 50, 51, 52, 53, 54, 55, 56, 57, 58, 59, 60, 61, 62, 63, 64, 65, 66, 67, 68, 69, 70, 71, 72, 73, 74, 75, 76, 77, 78, 79, 80, 81, 82, 83, 84] (fun g => [(9, .p (.int .i64 ((g : Nat) : Int))), (7, .p (.int .i64 (isum (partLo kd l b) g))), (8, .p (.int .i64 (isum (partHi kd l b) g)))]) (fun g => g ≤ l.length) (fun g => l.length - g) 0 (Nat.zero_le _) (Sub.cons rfl (Sub.cons rfl (Sub.cons rfl (Sub.nil)))) (fun i hg => ?_)
  have p1 := isum_B (f := partLo kd l b) (A := 0) (B := 1600000000000000) i (fun j hj => (hB j (by omega)).1)
  have p2 := isum_B (f := partHi kd l b) (A := 0) (B := 1600000000000000) i (fun j hj => (hB j (by omega)).2)
  refine AWp.seq ?_
  refine AWp.seq ?_
  refine AWp.region ?_
  refine AList.c 16 rfl rfl rfl (OpJ.move rfl rfl) ?_
  refine AList.c 17 rfl rfl rfl (OpJ.move rfl rfl) ?_
  refine AList.c 18 rfl rfl rfl (OpJ.lenSlice rfl rfl sl22 rfl) ?_
  refine AList.c 19 rfl rfl rfl (OpJ.lss rfl rfl rfl) ?_
  refine AList.nil ?_
  refine AWp.cond _ rfl (fun hc0 => ?_) (fun hc0 => ?_)
  · skip
    have hk0 : i < l.length := by simp at hc0; omega
    have hs := hl.2 l[i] (List.getElem_mem _)
    have h1 := wB hb i
    unfold wLo wHi at h1
    refine AWp.skip ?_
    refine AWp.seq ?_
    refine AWp.block ?_
    refine AWp.seq ?_
    refine AWp.region ?_
    refine AList.c 22 rfl rfl rfl (OpJ.move rfl rfl) ?_
    refine AList.c 23 rfl rfl rfl (OpJ.move rfl rfl) ?_
    refine AList.c 24 rfl rfl rfl (OpJ.callP (rWeight_ok b (i : Int) hb) rfl rfl rfl rfl rf26) ?_
    refine AList.c 10 rfl rfl rfl (OpJ.allocOwn rfl zr25 rfl) ?_
    refine AList.c0 rfl rfl (OpJ.store rfl rfl rfl rfl rfl ty25 rfl rfl) ?_
    refine AList.nil ?_
    refine AWp.seq ?_
    refine AWp.region ?_
    refine AList.c 25 rfl rfl rfl (OpJ.move rfl rfl) ?_
    refine AList.c 26 rfl rfl rfl (OpJ.move rfl rfl) ?_
    refine AList.c 27 rfl rfl rfl (OpJ.indexEl rfl rfl rfl sl22 el22 rfl (fun _ => rfl) (by decide) hk0) ?_
    refine AList.c 28 rfl rfl rfl (OpJ.load rfl rfl ty57 rfl) ?_
    refine AList.c 29 rfl rfl rfl (OpJ.callP (rCorners_ok l[i]) rfl rfl rfl rfl rf63) ?_
    refine AList.c 11 rfl rfl rfl (OpJ.assign rfl rfl) ?_
    refine AList.nil ?_
    refine AWp.seq ?_
    refine AWp.regionDraw 16 mixed (by kernel_rfl) (by decide) ?_
    refine AQuiet.cons 30 rfl rfl rfl (OpJ.move rfl rfl) ?_
    refine AQuiet.cons 31 rfl rfl rfl (OpJ.move rfl rfl) ?_
    refine AQuiet.cons 32 rfl rfl rfl (OpJ.indexWin (k := 0) rfl rfl rfl sl41 el41 (by decide) (corner_win _ (by decide)) (corner_ne _)) ?_
    refine AQuiet.cons 33 rfl rfl rfl (OpJ.fieldAddr rfl rfl fd88_0 rfl) ?_
    refine AQuiet.cons 34 rfl rfl rfl (OpJ.load rfl rfl ty3 rfl) ?_
    refine AQuiet.cons 35 rfl rfl rfl (OpJ.move rfl rfl) ?_
    refine AQuiet.cons 36 rfl rfl rfl (OpJ.indexWin (k := 0) rfl rfl rfl sl41 el41 (by decide) (corner_win _ (by decide)) (corner_ne _)) ?_
    refine AQuiet.cons 37 rfl rfl rfl (OpJ.fieldAddr rfl rfl fd88_1 rfl) ?_
    refine AQuiet.cons 38 rfl rfl rfl (OpJ.load rfl rfl ty3 rfl) ?_
    refine AQuiet.cons 39 rfl rfl rfl (OpJ.move rfl rfl) ?_
    refine AQuiet.cons 40 rfl rfl rfl (OpJ.indexWin (k := 0) rfl rfl rfl sl41 el41 (by decide) (corner_win _ (by decide)) (corner_ne _)) ?_
    refine AQuiet.cons 41 rfl rfl rfl (OpJ.fieldAddr rfl rfl fd88_2 rfl) ?_
    refine AQuiet.cons 42 rfl rfl rfl (OpJ.load rfl rfl ty3 rfl) ?_
    refine AQuiet.cons 43 rfl rfl rfl (OpJ.callP (rOf_ok _ _ _ _ hk (hs.corner _)) rfl rfl rfl rfl rf62) ?_
    refine AQuiet.cons 12 rfl rfl rfl (OpJ.assign rfl rfl) ?_
    refine AQuiet.cons 13 rfl rfl rfl (OpJ.assign rfl rfl) ?_
    refine AQuiet.nil ?_
    refine AList.nil ?_
    refine AWp.seq ?_
    refine AWp.seq ?_
    refine AWp.region ?_
    refine AList.c 14 rfl rfl rfl (OpJ.assign rfl rfl) ?_
    refine AList.nil ?_
    refine AWp.block ?_
    refine AWp.loopK [12, 13, 14, 15, 44, 45, 46, 47, 48, 49, 50, 51, 52, 53, 54, 55, 56, 57, 58, 59, 60, 61, 62, 63, 64, 65, 66, 67, 68, 69, 70, 71, 72] (fun g => [(14, .p (.int .i64 ((g : Nat) : Int))), (12, .p (.int .i64 (lstF (ofC kd l[i]) g))), (13, .p (.int .i64 (mstF (ofC kd l[i]) g)))]) (fun g => g ≤ 8) (fun g => 8 - g) 0 (Nat.zero_le _) (Sub.cons rfl (Sub.cons rfl (Sub.cons rfl (Sub.nil)))) (fun k hg => ?_)
    refine AWp.seq ?_
    refine AWp.seq ?_
    refine AWp.region ?_
    refine AList.c 44 rfl rfl rfl (OpJ.move rfl rfl) ?_
    refine AList.c 45 rfl rfl rfl (OpJ.move rfl rfl) ?_
    refine AList.c 46 rfl rfl rfl (OpJ.lenSlice rfl rfl sl41 rfl) ?_
    refine AList.c 47 rfl rfl rfl (OpJ.lss rfl rfl rfl) ?_
    refine AList.nil ?_
    refine AWp.cond _ rfl (fun hc1 => ?_) (fun hc1 => ?_)
    · skip
      have hk8 : k < 8 := by simp at hc1; omega
      refine AWp.skip ?_
      refine AWp.seq ?_
      refine AWp.block ?_
      refine AWp.seq ?_
      refine AWp.regionDraw 18 mixed (by kernel_rfl) (by decide) ?_
      refine AQuiet.cons 50 rfl rfl rfl (OpJ.move rfl rfl) ?_
      refine AQuiet.cons 51 rfl rfl rfl (OpJ.move rfl rfl) ?_
      refine AQuiet.cons 52 rfl rfl rfl (OpJ.move rfl rfl) ?_
      refine AQuiet.cons 53 rfl rfl rfl (OpJ.indexWin rfl rfl rfl sl41 el41 hk8 (corner_win _ hk8) (corner_ne _)) ?_
      refine AQuiet.cons 54 rfl rfl rfl (OpJ.fieldAddr rfl rfl fd88_0 rfl) ?_
      refine AQuiet.cons 55 rfl rfl rfl (OpJ.load rfl rfl ty3 rfl) ?_
      refine AQuiet.cons 56 rfl rfl rfl (OpJ.move rfl rfl) ?_
      refine AQuiet.cons 57 rfl rfl rfl (OpJ.move rfl rfl) ?_
      refine AQuiet.cons 58 rfl rfl rfl (OpJ.indexWin rfl rfl rfl sl41 el41 hk8 (corner_win _ hk8) (corner_ne _)) ?_
      refine AQuiet.cons 59 rfl rfl rfl (OpJ.fieldAddr rfl rfl fd88_1 rfl) ?_
      refine AQuiet.cons 60 rfl rfl rfl (OpJ.load rfl rfl ty3 rfl) ?_
      refine AQuiet.cons 61 rfl rfl rfl (OpJ.move rfl rfl) ?_
      refine AQuiet.cons 62 rfl rfl rfl (OpJ.move rfl rfl) ?_
      refine AQuiet.cons 63 rfl rfl rfl (OpJ.indexWin rfl rfl rfl sl41 el41 hk8 (corner_win _ hk8) (corner_ne _)) ?_
      refine AQuiet.cons 64 rfl rfl rfl (OpJ.fieldAddr rfl rfl fd88_2 rfl) ?_
      refine AQuiet.cons 65 rfl rfl rfl (OpJ.load rfl rfl ty3 rfl) ?_
      refine AQuiet.cons 66 rfl rfl rfl (OpJ.callP (rOf_ok _ _ _ _ hk (hs.corner _)) rfl rfl rfl rfl rf62) ?_
      refine AQuiet.cons 15 rfl rfl rfl (OpJ.assign rfl rfl) ?_
      refine AQuiet.nil ?_
      refine AList.nil ?_
      refine AWp.seq ?_
      refine AWp.region ?_
      refine AList.c 67 rfl rfl rfl (OpJ.move rfl rfl) ?_
      refine AList.c 68 rfl rfl rfl (OpJ.move rfl rfl) ?_
      refine AList.c 69 rfl rfl rfl (OpJ.min2 rfl rfl rfl) ?_
      refine AList.c 12 rfl rfl rfl (OpJ.assign rfl rfl) ?_
      refine AList.nil ?_
      refine AWp.region ?_
      refine AList.c 70 rfl rfl rfl (OpJ.move rfl rfl) ?_
      refine AList.c 71 rfl rfl rfl (OpJ.move rfl rfl) ?_
      refine AList.c 72 rfl rfl rfl (OpJ.max2 rfl rfl rfl) ?_
      refine AList.c 13 rfl rfl rfl (OpJ.assign rfl rfl) ?_
      refine AList.nil ?_
      refine AWp.region ?_
      refine AList.c 48 rfl rfl rfl (OpJ.move rfl rfl) ?_
      refine AList.c 49 rfl rfl rfl (OpJ.add rfl rfl rfl (i64ok ?_)) ?_
      · omega
      refine AList.c 14 rfl rfl rfl (OpJ.assign rfl rfl) ?_
      refine AList.nil ?_
      refine ⟨k + 1, ?_, ?_, ?_⟩
      · simp at hc1; omega
      · simp at hc1; omega
      refine To.done [0, 1] rfl (by repeat (first | exact Sub.nil | refine Sub.cons rfl ?_)) rfl
    · skip
      obtain rfl : k = 8 := by simp at hc1; omega
      have hf : ∀ j, 0 ≤ ofC kd l[i] j ∧ ofC kd l[i] j ≤ 2000000000 := fun j => ofB (hs.corner j)
      have q1 := mulB (A := 800000) (B := 2000000000) h1.1 (lstF_B hf 8)
      have q2 := mulB (A := 800000) (B := 2000000000) h1.2 (mstF_B hf 8)
      refine AWp.exit ?_
      refine AWp.seq ?_
      refine AWp.region ?_
      refine AList.c 73 rfl rfl rfl (OpJ.move rfl rfl) ?_
      refine AList.c 74 rfl rfl rfl (OpJ.fieldAddr rfl rfl fd25_0 rfl) ?_
      refine AList.c 75 rfl rfl rfl (OpJ.load rfl rfl ty3 rfl) ?_
      refine AList.c 76 rfl rfl rfl (OpJ.move rfl rfl) ?_
      refine AList.c 77 rfl rfl rfl (OpJ.mul rfl rfl rfl (i64ok ?_)) ?_
      · omega
      refine AList.c 78 rfl rfl rfl (OpJ.add rfl rfl rfl (i64ok ?_)) ?_
      · omega
      refine AList.c 7 rfl rfl rfl (OpJ.assign rfl rfl) ?_
      refine AList.nil ?_
      refine AWp.region ?_
      refine AList.c 79 rfl rfl rfl (OpJ.move rfl rfl) ?_
      refine AList.c 80 rfl rfl rfl (OpJ.fieldAddr rfl rfl fd25_1 rfl) ?_
      refine AList.c 81 rfl rfl rfl (OpJ.load rfl rfl ty3 rfl) ?_
      refine AList.c 82 rfl rfl rfl (OpJ.move rfl rfl) ?_
      refine AList.c 83 rfl rfl rfl (OpJ.mul rfl rfl rfl (i64ok ?_)) ?_
      · omega
      refine AList.c 84 rfl rfl rfl (OpJ.add rfl rfl rfl (i64ok ?_)) ?_
      · omega
      refine AList.c 8 rfl rfl rfl (OpJ.assign rfl rfl) ?_
      refine AList.nil ?_
      refine AWp.region ?_
      refine AList.c 20 rfl rfl rfl (OpJ.move rfl rfl) ?_
      refine AList.c 21 rfl rfl rfl (OpJ.add rfl rfl rfl (i64ok ?_)) ?_
      · omega
      refine AList.c 9 rfl rfl rfl (OpJ.assign rfl rfl) ?_
      refine AList.nil ?_
      refine ⟨i + 1, ?_, ?_, ?_⟩
      · simp at hc0; omega
      · simp at hc0; omega
      refine To.done [0] rfl ?_ rfl
      refine Sub.cons rfl (Sub.cons ?_ (Sub.cons ?_ (by repeat (first | exact Sub.nil | refine Sub.cons rfl ?_))))
      · rw [isum, partLo, List.getElem?_eq_getElem hk0]; rfl
      · rw [isum, partHi, List.getElem?_eq_getElem hk0]; rfl
  · skip
    obtain rfl : i = l.length := by simp at hc0; omega
    refine AWp.exit ?_
    refine AWp.seq ?_
    refine AWp.region ?_
    refine AList.c 85 rfl rfl rfl (OpJ.move rfl rfl) ?_
    refine AList.c 86 rfl rfl rfl (OpJ.callP (rDown_ok _ _ ?_ ?_) rfl rfl rfl rfl rf52) ?_
    · omega
    · omega
    refine AList.c 87 rfl rfl rfl (OpJ.move rfl rfl) ?_
    refine AList.c 88 rfl rfl rfl (OpJ.callP (rUp_ok _ _ ?_ ?_) rfl rfl rfl rfl rf51) ?_
    · omega
    · omega
    refine AList.c 89 rfl rfl rfl (OpJ.build rfl bd25 rfl rfl) ?_
    refine AList.c0 rfl rfl (OpJ.store rfl rfl rfl rfl rfl ty25 rfl rfl) ?_
    refine AList.nil ?_
    refine AWp.ret ?_
    exact Fin.one rfl (⟨_, _, _, rfl, ty25, rfl⟩)
end Go.Proofs.Ytmcejcidbekpkaa
