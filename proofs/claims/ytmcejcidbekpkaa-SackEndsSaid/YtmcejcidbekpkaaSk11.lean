/-
  The document: beyond a share.
-/
import Derived.Test.YtmcejcidbekpkaaSkFacts
import Derived.Test.YtmcejcidbekpkaaSkD
import Derived.Test.YtmcejcidbekpkaaSk1
import Derived.Test.YtmcejcidbekpkaaSk3
import Derived.Test.YtmcejcidbekpkaaSk4
set_option linter.unusedVariables false
set_option maxRecDepth 100000
set_option maxHeartbeats 4000000
set_option linter.unusedSimpArgs false
namespace Go.Proofs.Ytmcejcidbekpkaa
open Go.AF
theorem mn_then {f : Nat → Int} {k : Nat} (h : k = 0 ∨ f k < mnF f k) : mnF f (k + 1) = f k := by
  simp only [mnF]
  split
  · rename_i h0; subst h0; rfl
  · omega
theorem mn_else {f : Nat → Int} {k : Nat} (h : ¬ k = 0 ∧ mnF f k ≤ f k) : mnF f (k + 1) = mnF f k := by
  simp only [mnF]
  rw [if_neg h.1]
  omega
theorem mx_then {f : Nat → Int} {k : Nat} (h : k = 0 ∨ mxF f k < f k) : mxF f (k + 1) = f k := by
  simp only [mxF]
  split
  · rename_i h0; subst h0; rfl
  · omega
theorem mx_else {f : Nat → Int} {k : Nat} (h : ¬ k = 0 ∧ f k ≤ mxF f k) : mxF f (k + 1) = mxF f k := by
  simp only [mxF]
  rw [if_neg h.1]
  omega
theorem rbeyond_ok (l : List Sk) (b : List Tk) (n : Int) (hl : okL l) (hb : okB b) (hn : 0 ≤ n ∧ n ≤ 1000) : Pure Try.prog 46 [sacksV l, takesV b, .int .i64 n] (.tuple [.int .i64 (isum (beyLo l b n) l.length), .int .i64 (isum (beyHi l b n) l.length)]) := by
  have hl8 := hl.1
  have hB : ∀ i, i < l.length → _ := fun i hi => beyB (l := l) (b := b) (n := n) hb hn hi (hl.2 l[i] (List.getElem_mem _))
  refine Pure.start (N := 129) Try.func46 rfl rfl (Nat.le_of_ble_eq_true rfl) ?_
  refine AWp.seq ?_
  refine AWp.region ?_
  refine AList.c 6 rfl rfl rfl (OpJ.assign rfl rfl) ?_
  refine AList.c 7 rfl rfl rfl (OpJ.assign rfl rfl) ?_
  refine AList.nil ?_
  refine AWp.seq ?_
  refine AWp.region ?_
  refine AList.c 8 rfl rfl rfl (OpJ.assign rfl rfl) ?_
  refine AList.c 9 rfl rfl rfl (OpJ.assign rfl rfl) ?_
  refine AList.nil ?_
  refine AWp.seq ?_
  refine AWp.seq ?_
  refine AWp.region ?_
  refine AList.c 10 rfl rfl rfl (OpJ.assign rfl rfl) ?_
  refine AList.nil ?_
  refine AWp.block ?_
  refine AWp.loopK [8, 9, 10, 11, 12, 13, 14, 15, 16, 17, 18, 19, 20, 21, 22, 23, 24, 25, 26, 27, 28, 29, 30, 31, 32, 33, 34, 35, 36, 37, 38, 39, 40, 41, 42, 43, 44, 45, 46, 47, 48, 49, 50, 51, 52, 53, 54, 55, 56, 57, 58, 59, 60, 61, 62, 63, 64, 65, 66, 67, 68, 69, 70, 71, 72, 73, 74, 75, 76, 77, 78, 79, 80, 81, 82, 83, 84, 85, 86, 87, 88, 89, 90, 91, 92, 93, 94, 95, 96, 97, 98, 99, 100, 101, 102, 103, 104, 105, 106, 107, 108, 109, 110, 111, 112, 113, 114, 115, 116, 117, 118, 119, 120, 121, 122, 123, 124, 125, 126] (fun g => [(10, .p (.int .i64 ((g : Nat) : Int))), (8, .p (.int .i64 (isum (beyLo l b n) g))), (9, .p (.int .i64 (isum (beyHi l b n) g)))]) (fun g => g ≤ l.length) (fun g => l.length - g) 0 (Nat.zero_le _) (Sub.cons rfl (Sub.cons rfl (Sub.cons rfl (Sub.nil)))) (fun i hg => ?_)
  refine AWp.seq ?_
  refine AWp.seq ?_
  refine AWp.region ?_
  refine AList.c 17 rfl rfl rfl (OpJ.move rfl rfl) ?_
  refine AList.c 18 rfl rfl rfl (OpJ.move rfl rfl) ?_
  refine AList.c 19 rfl rfl rfl (OpJ.lenSlice rfl rfl sl22 rfl) ?_
  refine AList.c 20 rfl rfl rfl (OpJ.lss rfl rfl rfl) ?_
  refine AList.nil ?_
  refine AWp.cond _ rfl (fun hc0 => ?_) (fun hc0 => ?_)
  · skip
    have hk0 : i < l.length := by simp at hc0; omega
    have hs := hl.2 l[i] (List.getElem_mem _)
    have h1 := wB hb i
    unfold wLo wHi at h1
    have p1 := isum_B (f := beyLo l b n) (A := -800000000000000000) (B := 800000000000000000) i (fun j hj => (hB j (by omega)).1)
    have p2 := isum_B (f := beyHi l b n) (A := -800000000000000000) (B := 800000000000000000) i (fun j hj => (hB j (by omega)).2)
    refine AWp.skip ?_
    refine AWp.seq ?_
    refine AWp.block ?_
    refine AWp.seq ?_
    refine AWp.region ?_
    refine AList.c 23 rfl rfl rfl (OpJ.move rfl rfl) ?_
    refine AList.c 24 rfl rfl rfl (OpJ.move rfl rfl) ?_
    refine AList.c 25 rfl rfl rfl (OpJ.callP (rWeight_ok b (i : Int) hb) rfl rfl rfl rfl rf26) ?_
    refine AList.c 11 rfl rfl rfl (OpJ.allocOwn rfl zr25 rfl) ?_
    refine AList.c0 rfl rfl (OpJ.store rfl rfl rfl rfl rfl ty25 rfl rfl) ?_
    refine AList.nil ?_
    refine AWp.seq ?_
    refine AWp.region ?_
    refine AList.c 26 rfl rfl rfl (OpJ.move rfl rfl) ?_
    refine AList.c 27 rfl rfl rfl (OpJ.move rfl rfl) ?_
    refine AList.c 28 rfl rfl rfl (OpJ.indexEl rfl rfl rfl sl22 el22 rfl (fun _ => rfl) (by decide) hk0) ?_
    refine AList.c 29 rfl rfl rfl (OpJ.load rfl rfl ty57 rfl) ?_
    refine AList.c 30 rfl rfl rfl (OpJ.callP (rCorners_ok l[i]) rfl rfl rfl rfl rf63) ?_
    refine AList.c 12 rfl rfl rfl (OpJ.assign rfl rfl) ?_
    refine AList.nil ?_
    refine AWp.seq ?_
    refine AWp.region ?_
    refine AList.c 13 rfl rfl rfl (OpJ.assign rfl rfl) ?_
    refine AList.c 14 rfl rfl rfl (OpJ.assign rfl rfl) ?_
    refine AList.nil ?_
    refine AWp.seq ?_
    refine AWp.seq ?_
    refine AWp.region ?_
    refine AList.c 15 rfl rfl rfl (OpJ.assign rfl rfl) ?_
    refine AList.nil ?_
    refine AWp.block ?_
    refine AWp.loopK [13, 14, 15, 16, 31, 32, 33, 34, 35, 36, 37, 38, 39, 40, 41, 42, 43, 44, 45, 46, 47, 48, 49, 50, 51, 52, 53, 54, 55, 56, 57, 58, 59, 60, 61, 62, 63, 64, 65, 66, 67, 68, 69, 70, 71, 72, 73, 74, 75, 76, 77, 78, 79, 80, 81, 82, 83, 84, 85, 86, 87, 88, 89, 90, 91, 92, 93, 94, 95, 96, 97, 98, 99, 100, 101, 102, 103, 104, 105, 106, 107, 108, 109, 110, 111, 112, 113, 114, 115, 116, 117, 118, 119, 120] (fun g => [(15, .p (.int .i64 ((g : Nat) : Int))), (13, .p (.int .i64 (mnF (beyLoK l b n i) g))), (14, .p (.int .i64 (mxF (beyHiK l b n i) g)))]) (fun g => g ≤ 8) (fun g => 8 - g) 0 (Nat.zero_le _) (Sub.cons rfl (Sub.cons rfl (Sub.cons rfl (Sub.nil)))) (fun k hg => ?_)
    refine AWp.seq ?_
    refine AWp.seq ?_
    refine AWp.region ?_
    refine AList.c 31 rfl rfl rfl (OpJ.move rfl rfl) ?_
    refine AList.c 32 rfl rfl rfl (OpJ.move rfl rfl) ?_
    refine AList.c 33 rfl rfl rfl (OpJ.lenSlice rfl rfl sl41 rfl) ?_
    refine AList.c 34 rfl rfl rfl (OpJ.lss rfl rfl rfl) ?_
    refine AList.nil ?_
    refine AWp.cond _ rfl (fun hc1 => ?_) (fun hc1 => ?_)
    · skip
      have hk8 : k < 8 := by simp at hc1; omega
      have o1 := ofB (k := 1) (hs.corner k)
      have o4 := ofB (k := 4) (hs.corner k)
      have o5 := mulB hn o4
      have hx := beyo_B hn hs k
      unfold beyo at hx
      have q1 := mulA (A := 1000000000000) (B := 800000) hx h1.1
      have q2 := mulA (A := 1000000000000) (B := 800000) hx h1.2
      have ef : beyLoK l b n i k = min (wLo b i * beyo n l[i] k) (wHi b i * beyo n l[i] k) := by unfold beyLoK; rw [List.getElem?_eq_getElem hk0, Option.getD_some]
      have eg : beyHiK l b n i k = max (wLo b i * beyo n l[i] k) (wHi b i * beyo n l[i] k) := by unfold beyHiK; rw [List.getElem?_eq_getElem hk0, Option.getD_some]
      refine AWp.skip ?_
      refine AWp.seq ?_
      refine AWp.block ?_
      refine AWp.seq ?_
      refine AWp.regionDraw 37 mixed (by kernel_rfl) (by decide) ?_
      refine AQuiet.cons 37 rfl rfl rfl (OpJ.move rfl rfl) ?_
      refine AQuiet.cons 38 rfl rfl rfl (OpJ.move rfl rfl) ?_
      refine AQuiet.cons 39 rfl rfl rfl (OpJ.indexWin rfl rfl rfl sl41 el41 hk8 (corner_win _ hk8) (corner_ne _)) ?_
      refine AQuiet.cons 40 rfl rfl rfl (OpJ.fieldAddr rfl rfl fd88_0 rfl) ?_
      refine AQuiet.cons 41 rfl rfl rfl (OpJ.load rfl rfl ty3 rfl) ?_
      refine AQuiet.cons 42 rfl rfl rfl (OpJ.move rfl rfl) ?_
      refine AQuiet.cons 43 rfl rfl rfl (OpJ.move rfl rfl) ?_
      refine AQuiet.cons 44 rfl rfl rfl (OpJ.indexWin rfl rfl rfl sl41 el41 hk8 (corner_win _ hk8) (corner_ne _)) ?_
      refine AQuiet.cons 45 rfl rfl rfl (OpJ.fieldAddr rfl rfl fd88_1 rfl) ?_
      refine AQuiet.cons 46 rfl rfl rfl (OpJ.load rfl rfl ty3 rfl) ?_
      refine AQuiet.cons 47 rfl rfl rfl (OpJ.move rfl rfl) ?_
      refine AQuiet.cons 48 rfl rfl rfl (OpJ.move rfl rfl) ?_
      refine AQuiet.cons 49 rfl rfl rfl (OpJ.indexWin rfl rfl rfl sl41 el41 hk8 (corner_win _ hk8) (corner_ne _)) ?_
      refine AQuiet.cons 50 rfl rfl rfl (OpJ.fieldAddr rfl rfl fd88_2 rfl) ?_
      refine AQuiet.cons 51 rfl rfl rfl (OpJ.load rfl rfl ty3 rfl) ?_
      refine AQuiet.cons 52 rfl rfl rfl (OpJ.callP (rOf_ok _ _ _ _ ?_ ?_) rfl rfl rfl rfl rf62) ?_
      · omega
      · exact hs.corner k
      refine AQuiet.cons 53 rfl rfl rfl (OpJ.mul rfl rfl rfl (i64ok ?_)) ?_
      · omega
      refine AQuiet.cons 54 rfl rfl rfl (OpJ.move rfl rfl) ?_
      refine AQuiet.cons 55 rfl rfl rfl (OpJ.move rfl rfl) ?_
      refine AQuiet.cons 56 rfl rfl rfl (OpJ.move rfl rfl) ?_
      refine AQuiet.cons 57 rfl rfl rfl (OpJ.indexWin rfl rfl rfl sl41 el41 hk8 (corner_win _ hk8) (corner_ne _)) ?_
      refine AQuiet.cons 58 rfl rfl rfl (OpJ.fieldAddr rfl rfl fd88_0 rfl) ?_
      refine AQuiet.cons 59 rfl rfl rfl (OpJ.load rfl rfl ty3 rfl) ?_
      refine AQuiet.cons 60 rfl rfl rfl (OpJ.move rfl rfl) ?_
      refine AQuiet.cons 61 rfl rfl rfl (OpJ.move rfl rfl) ?_
      refine AQuiet.cons 62 rfl rfl rfl (OpJ.indexWin rfl rfl rfl sl41 el41 hk8 (corner_win _ hk8) (corner_ne _)) ?_
      refine AQuiet.cons 63 rfl rfl rfl (OpJ.fieldAddr rfl rfl fd88_1 rfl) ?_
      refine AQuiet.cons 64 rfl rfl rfl (OpJ.load rfl rfl ty3 rfl) ?_
      refine AQuiet.cons 65 rfl rfl rfl (OpJ.move rfl rfl) ?_
      refine AQuiet.cons 66 rfl rfl rfl (OpJ.move rfl rfl) ?_
      refine AQuiet.cons 67 rfl rfl rfl (OpJ.indexWin rfl rfl rfl sl41 el41 hk8 (corner_win _ hk8) (corner_ne _)) ?_
      refine AQuiet.cons 68 rfl rfl rfl (OpJ.fieldAddr rfl rfl fd88_2 rfl) ?_
      refine AQuiet.cons 69 rfl rfl rfl (OpJ.load rfl rfl ty3 rfl) ?_
      refine AQuiet.cons 70 rfl rfl rfl (OpJ.callP (rOf_ok _ _ _ _ ?_ ?_) rfl rfl rfl rfl rf62) ?_
      · omega
      · exact hs.corner k
      refine AQuiet.cons 71 rfl rfl rfl (OpJ.mul rfl rfl rfl (i64ok ?_)) ?_
      · omega
      refine AQuiet.cons 72 rfl rfl rfl (OpJ.sub_ rfl rfl rfl (i64ok ?_)) ?_
      · omega
      refine AQuiet.cons 16 rfl rfl rfl (OpJ.assign rfl rfl) ?_
      refine AQuiet.nil ?_
      refine AList.nil ?_
      refine AWp.seq ?_
      refine AWp.seq ?_
      refine AWp.region ?_
      refine AList.c 73 rfl rfl rfl (OpJ.move rfl rfl) ?_
      refine AList.c 74 rfl rfl rfl (OpJ.eql rfl rfl rfl) ?_
      refine AList.c 75 rfl rfl rfl (OpJ.move rfl rfl) ?_
      refine AList.g 76 75 rfl rfl rfl rfl rfl rfl rfl [(11, _)] (fun h => And.intro (.inl rfl) (trivial)) (fun h => (OpJ.fieldAddr rfl rfl fd25_0 rfl)) ?_
      refine AList.g 77 75 rfl rfl rfl rfl rfl rfl rfl [(76, _)] (fun h => And.intro (.inr ⟨_, rfl, h⟩) (trivial)) (fun h => (OpJ.load rfl rfl ty3 rfl)) ?_
      refine AList.g 78 75 rfl rfl rfl rfl rfl rfl rfl [(16, _)] (fun h => And.intro (.inl rfl) (trivial)) (fun h => (OpJ.move rfl rfl)) ?_
      refine AList.g 79 75 rfl rfl rfl rfl rfl rfl rfl [(77, _), (78, _)] (fun h => And.intro (.inr ⟨_, rfl, h⟩) (And.intro (.inr ⟨_, rfl, h⟩) (trivial))) (fun h => (OpJ.mul rfl rfl rfl (i64ok ?_))) ?_
      · omega
      refine AList.g 80 75 rfl rfl rfl rfl rfl rfl rfl [(11, _)] (fun h => And.intro (.inl rfl) (trivial)) (fun h => (OpJ.fieldAddr rfl rfl fd25_1 rfl)) ?_
      refine AList.g 81 75 rfl rfl rfl rfl rfl rfl rfl [(80, _)] (fun h => And.intro (.inr ⟨_, rfl, h⟩) (trivial)) (fun h => (OpJ.load rfl rfl ty3 rfl)) ?_
      refine AList.g 82 75 rfl rfl rfl rfl rfl rfl rfl [(16, _)] (fun h => And.intro (.inl rfl) (trivial)) (fun h => (OpJ.move rfl rfl)) ?_
      refine AList.g 83 75 rfl rfl rfl rfl rfl rfl rfl [(81, _), (82, _)] (fun h => And.intro (.inr ⟨_, rfl, h⟩) (And.intro (.inr ⟨_, rfl, h⟩) (trivial))) (fun h => (OpJ.mul rfl rfl rfl (i64ok ?_))) ?_
      · omega
      refine AList.g 84 75 rfl rfl rfl rfl rfl rfl rfl [(79, _), (83, _)] (fun h => And.intro (.inr ⟨_, rfl, h⟩) (And.intro (.inr ⟨_, rfl, h⟩) (trivial))) (fun h => (OpJ.min2 rfl rfl rfl)) ?_
      refine AList.g 85 75 rfl rfl rfl rfl rfl rfl rfl [(13, _)] (fun h => And.intro (.inl rfl) (trivial)) (fun h => (OpJ.move rfl rfl)) ?_
      refine AList.g 86 75 rfl rfl rfl rfl rfl rfl rfl [(84, _), (85, _)] (fun h => And.intro (.inr ⟨_, rfl, h⟩) (And.intro (.inr ⟨_, rfl, h⟩) (trivial))) (fun h => (OpJ.lss rfl rfl rfl)) ?_
      refine AList.c 87 rfl rfl rfl (OpJ.or_ rfl rfl rfl ?_) ?_
      · first | (intro h; rw [h]; rfl) | (intro h; simp_all)
      refine AList.nil ?_
      refine AWp.cond _ rfl (fun hc2 => ?_) (fun hc2 => ?_)
      · skip
        have g2 : (decide ((k : Int) = 0) || decide (min (wLo b i * beyo n l[i] k) (wHi b i * beyo n l[i] k) < mnF (beyLoK l b n i) k)) = true := hc2
        rw [← ef] at g2
        have r2 : mnF (beyLoK l b n i) (k + 1) = beyLoK l b n i k := mn_then (by simpa using g2)
        refine AWp.region ?_
        refine AList.c 88 rfl rfl rfl (OpJ.fieldAddr rfl rfl fd25_0 rfl) ?_
        refine AList.c 89 rfl rfl rfl (OpJ.load rfl rfl ty3 rfl) ?_
        refine AList.c 90 rfl rfl rfl (OpJ.move rfl rfl) ?_
        refine AList.c 91 rfl rfl rfl (OpJ.mul rfl rfl rfl (i64ok ?_)) ?_
        · omega
        refine AList.c 92 rfl rfl rfl (OpJ.fieldAddr rfl rfl fd25_1 rfl) ?_
        refine AList.c 93 rfl rfl rfl (OpJ.load rfl rfl ty3 rfl) ?_
        refine AList.c 94 rfl rfl rfl (OpJ.move rfl rfl) ?_
        refine AList.c 95 rfl rfl rfl (OpJ.mul rfl rfl rfl (i64ok ?_)) ?_
        · omega
        refine AList.c 96 rfl rfl rfl (OpJ.min2 rfl rfl rfl) ?_
        refine AList.c 13 rfl rfl rfl (OpJ.assign rfl rfl) ?_
        refine AList.nil ?_
        refine AWp.seq ?_
        refine AWp.region ?_
        refine AList.c 97 rfl rfl rfl (OpJ.move rfl rfl) ?_
        refine AList.c 98 rfl rfl rfl (OpJ.eql rfl rfl rfl) ?_
        refine AList.c 99 rfl rfl rfl (OpJ.move rfl rfl) ?_
        refine AList.g 100 99 rfl rfl rfl rfl rfl rfl rfl [(11, _)] (fun h => And.intro (.inl rfl) (trivial)) (fun h => (OpJ.fieldAddr rfl rfl fd25_0 rfl)) ?_
        refine AList.g 101 99 rfl rfl rfl rfl rfl rfl rfl [(100, _)] (fun h => And.intro (.inr ⟨_, rfl, h⟩) (trivial)) (fun h => (OpJ.load rfl rfl ty3 rfl)) ?_
        refine AList.g 102 99 rfl rfl rfl rfl rfl rfl rfl [(16, _)] (fun h => And.intro (.inl rfl) (trivial)) (fun h => (OpJ.move rfl rfl)) ?_
        refine AList.g 103 99 rfl rfl rfl rfl rfl rfl rfl [(101, _), (102, _)] (fun h => And.intro (.inr ⟨_, rfl, h⟩) (And.intro (.inr ⟨_, rfl, h⟩) (trivial))) (fun h => (OpJ.mul rfl rfl rfl (i64ok ?_))) ?_
        · omega
        refine AList.g 104 99 rfl rfl rfl rfl rfl rfl rfl [(11, _)] (fun h => And.intro (.inl rfl) (trivial)) (fun h => (OpJ.fieldAddr rfl rfl fd25_1 rfl)) ?_
        refine AList.g 105 99 rfl rfl rfl rfl rfl rfl rfl [(104, _)] (fun h => And.intro (.inr ⟨_, rfl, h⟩) (trivial)) (fun h => (OpJ.load rfl rfl ty3 rfl)) ?_
        refine AList.g 106 99 rfl rfl rfl rfl rfl rfl rfl [(16, _)] (fun h => And.intro (.inl rfl) (trivial)) (fun h => (OpJ.move rfl rfl)) ?_
        refine AList.g 107 99 rfl rfl rfl rfl rfl rfl rfl [(105, _), (106, _)] (fun h => And.intro (.inr ⟨_, rfl, h⟩) (And.intro (.inr ⟨_, rfl, h⟩) (trivial))) (fun h => (OpJ.mul rfl rfl rfl (i64ok ?_))) ?_
        · omega
        refine AList.g 108 99 rfl rfl rfl rfl rfl rfl rfl [(103, _), (107, _)] (fun h => And.intro (.inr ⟨_, rfl, h⟩) (And.intro (.inr ⟨_, rfl, h⟩) (trivial))) (fun h => (OpJ.max2 rfl rfl rfl)) ?_
        refine AList.g 109 99 rfl rfl rfl rfl rfl rfl rfl [(14, _)] (fun h => And.intro (.inl rfl) (trivial)) (fun h => (OpJ.move rfl rfl)) ?_
        refine AList.g 110 99 rfl rfl rfl rfl rfl rfl rfl [(108, _), (109, _)] (fun h => And.intro (.inr ⟨_, rfl, h⟩) (And.intro (.inr ⟨_, rfl, h⟩) (trivial))) (fun h => (OpJ.gtr rfl rfl rfl)) ?_
        refine AList.c 111 rfl rfl rfl (OpJ.or_ rfl rfl rfl ?_) ?_
        · first | (intro h; rw [h]; rfl) | (intro h; simp_all)
        refine AList.nil ?_
        refine AWp.cond _ rfl (fun hc3 => ?_) (fun hc3 => ?_)
        · skip
          have g3 : (decide ((k : Int) = 0) || decide (mxF (beyHiK l b n i) k < max (wLo b i * beyo n l[i] k) (wHi b i * beyo n l[i] k))) = true := hc3
          rw [← eg] at g3
          have r3 : mxF (beyHiK l b n i) (k + 1) = beyHiK l b n i k := mx_then (by simpa using g3)
          refine AWp.region ?_
          refine AList.c 112 rfl rfl rfl (OpJ.fieldAddr rfl rfl fd25_0 rfl) ?_
          refine AList.c 113 rfl rfl rfl (OpJ.load rfl rfl ty3 rfl) ?_
          refine AList.c 114 rfl rfl rfl (OpJ.move rfl rfl) ?_
          refine AList.c 115 rfl rfl rfl (OpJ.mul rfl rfl rfl (i64ok ?_)) ?_
          · omega
          refine AList.c 116 rfl rfl rfl (OpJ.fieldAddr rfl rfl fd25_1 rfl) ?_
          refine AList.c 117 rfl rfl rfl (OpJ.load rfl rfl ty3 rfl) ?_
          refine AList.c 118 rfl rfl rfl (OpJ.move rfl rfl) ?_
          refine AList.c 119 rfl rfl rfl (OpJ.mul rfl rfl rfl (i64ok ?_)) ?_
          · omega
          refine AList.c 120 rfl rfl rfl (OpJ.max2 rfl rfl rfl) ?_
          refine AList.c 14 rfl rfl rfl (OpJ.assign rfl rfl) ?_
          refine AList.nil ?_
          refine AWp.region ?_
          refine AList.c 35 rfl rfl rfl (OpJ.move rfl rfl) ?_
          refine AList.c 36 rfl rfl rfl (OpJ.add rfl rfl rfl (i64ok ?_)) ?_
          · omega
          refine AList.c 15 rfl rfl rfl (OpJ.assign rfl rfl) ?_
          refine AList.nil ?_
          refine ⟨k + 1, ?_, ?_, ?_⟩
          · simp at hc1; omega
          · simp at hc1; omega
          refine To.done [0] rfl ?_ rfl
          refine Sub.cons rfl (Sub.cons ?_ (Sub.cons ?_ (by repeat (first | exact Sub.nil | refine Sub.cons rfl ?_))))
          · rw [r2]; first | rfl | (rw [ef]; rfl)
          · rw [r3]; first | rfl | (rw [eg]; rfl)
        · skip
          have g3 : (decide ((k : Int) = 0) || decide (mxF (beyHiK l b n i) k < max (wLo b i * beyo n l[i] k) (wHi b i * beyo n l[i] k))) = false := hc3
          rw [← eg] at g3
          have r3 : mxF (beyHiK l b n i) (k + 1) = mxF (beyHiK l b n i) k := mx_else (by simpa using g3)
          refine AWp.skip ?_
          refine AWp.region ?_
          refine AList.c 35 rfl rfl rfl (OpJ.move rfl rfl) ?_
          refine AList.c 36 rfl rfl rfl (OpJ.add rfl rfl rfl (i64ok ?_)) ?_
          · omega
          refine AList.c 15 rfl rfl rfl (OpJ.assign rfl rfl) ?_
          refine AList.nil ?_
          refine ⟨k + 1, ?_, ?_, ?_⟩
          · simp at hc1; omega
          · simp at hc1; omega
          refine To.done [0] rfl ?_ rfl
          refine Sub.cons rfl (Sub.cons ?_ (Sub.cons ?_ (by repeat (first | exact Sub.nil | refine Sub.cons rfl ?_))))
          · rw [r2]; first | rfl | (rw [ef]; rfl)
          · rw [r3]; first | rfl | (rw [eg]; rfl)
      · skip
        have g2 : (decide ((k : Int) = 0) || decide (min (wLo b i * beyo n l[i] k) (wHi b i * beyo n l[i] k) < mnF (beyLoK l b n i) k)) = false := hc2
        rw [← ef] at g2
        have r2 : mnF (beyLoK l b n i) (k + 1) = mnF (beyLoK l b n i) k := mn_else (by simpa using g2)
        refine AWp.skip ?_
        refine AWp.seq ?_
        refine AWp.region ?_
        refine AList.c 97 rfl rfl rfl (OpJ.move rfl rfl) ?_
        refine AList.c 98 rfl rfl rfl (OpJ.eql rfl rfl rfl) ?_
        refine AList.c 99 rfl rfl rfl (OpJ.move rfl rfl) ?_
        refine AList.g 100 99 rfl rfl rfl rfl rfl rfl rfl [(11, _)] (fun h => And.intro (.inl rfl) (trivial)) (fun h => (OpJ.fieldAddr rfl rfl fd25_0 rfl)) ?_
        refine AList.g 101 99 rfl rfl rfl rfl rfl rfl rfl [(100, _)] (fun h => And.intro (.inr ⟨_, rfl, h⟩) (trivial)) (fun h => (OpJ.load rfl rfl ty3 rfl)) ?_
        refine AList.g 102 99 rfl rfl rfl rfl rfl rfl rfl [(16, _)] (fun h => And.intro (.inl rfl) (trivial)) (fun h => (OpJ.move rfl rfl)) ?_
        refine AList.g 103 99 rfl rfl rfl rfl rfl rfl rfl [(101, _), (102, _)] (fun h => And.intro (.inr ⟨_, rfl, h⟩) (And.intro (.inr ⟨_, rfl, h⟩) (trivial))) (fun h => (OpJ.mul rfl rfl rfl (i64ok ?_))) ?_
        · omega
        refine AList.g 104 99 rfl rfl rfl rfl rfl rfl rfl [(11, _)] (fun h => And.intro (.inl rfl) (trivial)) (fun h => (OpJ.fieldAddr rfl rfl fd25_1 rfl)) ?_
        refine AList.g 105 99 rfl rfl rfl rfl rfl rfl rfl [(104, _)] (fun h => And.intro (.inr ⟨_, rfl, h⟩) (trivial)) (fun h => (OpJ.load rfl rfl ty3 rfl)) ?_
        refine AList.g 106 99 rfl rfl rfl rfl rfl rfl rfl [(16, _)] (fun h => And.intro (.inl rfl) (trivial)) (fun h => (OpJ.move rfl rfl)) ?_
        refine AList.g 107 99 rfl rfl rfl rfl rfl rfl rfl [(105, _), (106, _)] (fun h => And.intro (.inr ⟨_, rfl, h⟩) (And.intro (.inr ⟨_, rfl, h⟩) (trivial))) (fun h => (OpJ.mul rfl rfl rfl (i64ok ?_))) ?_
        · omega
        refine AList.g 108 99 rfl rfl rfl rfl rfl rfl rfl [(103, _), (107, _)] (fun h => And.intro (.inr ⟨_, rfl, h⟩) (And.intro (.inr ⟨_, rfl, h⟩) (trivial))) (fun h => (OpJ.max2 rfl rfl rfl)) ?_
        refine AList.g 109 99 rfl rfl rfl rfl rfl rfl rfl [(14, _)] (fun h => And.intro (.inl rfl) (trivial)) (fun h => (OpJ.move rfl rfl)) ?_
        refine AList.g 110 99 rfl rfl rfl rfl rfl rfl rfl [(108, _), (109, _)] (fun h => And.intro (.inr ⟨_, rfl, h⟩) (And.intro (.inr ⟨_, rfl, h⟩) (trivial))) (fun h => (OpJ.gtr rfl rfl rfl)) ?_
        refine AList.c 111 rfl rfl rfl (OpJ.or_ rfl rfl rfl ?_) ?_
        · first | (intro h; rw [h]; rfl) | (intro h; simp_all)
        refine AList.nil ?_
        refine AWp.cond _ rfl (fun hc3 => ?_) (fun hc3 => ?_)
        · skip
          have g3 : (decide ((k : Int) = 0) || decide (mxF (beyHiK l b n i) k < max (wLo b i * beyo n l[i] k) (wHi b i * beyo n l[i] k))) = true := hc3
          rw [← eg] at g3
          have r3 : mxF (beyHiK l b n i) (k + 1) = beyHiK l b n i k := mx_then (by simpa using g3)
          refine AWp.region ?_
          refine AList.c 112 rfl rfl rfl (OpJ.fieldAddr rfl rfl fd25_0 rfl) ?_
          refine AList.c 113 rfl rfl rfl (OpJ.load rfl rfl ty3 rfl) ?_
          refine AList.c 114 rfl rfl rfl (OpJ.move rfl rfl) ?_
          refine AList.c 115 rfl rfl rfl (OpJ.mul rfl rfl rfl (i64ok ?_)) ?_
          · omega
          refine AList.c 116 rfl rfl rfl (OpJ.fieldAddr rfl rfl fd25_1 rfl) ?_
          refine AList.c 117 rfl rfl rfl (OpJ.load rfl rfl ty3 rfl) ?_
          refine AList.c 118 rfl rfl rfl (OpJ.move rfl rfl) ?_
          refine AList.c 119 rfl rfl rfl (OpJ.mul rfl rfl rfl (i64ok ?_)) ?_
          · omega
          refine AList.c 120 rfl rfl rfl (OpJ.max2 rfl rfl rfl) ?_
          refine AList.c 14 rfl rfl rfl (OpJ.assign rfl rfl) ?_
          refine AList.nil ?_
          refine AWp.region ?_
          refine AList.c 35 rfl rfl rfl (OpJ.move rfl rfl) ?_
          refine AList.c 36 rfl rfl rfl (OpJ.add rfl rfl rfl (i64ok ?_)) ?_
          · omega
          refine AList.c 15 rfl rfl rfl (OpJ.assign rfl rfl) ?_
          refine AList.nil ?_
          refine ⟨k + 1, ?_, ?_, ?_⟩
          · simp at hc1; omega
          · simp at hc1; omega
          refine To.done [0] rfl ?_ rfl
          refine Sub.cons rfl (Sub.cons ?_ (Sub.cons ?_ (by repeat (first | exact Sub.nil | refine Sub.cons rfl ?_))))
          · rw [r2]; first | rfl | (rw [ef]; rfl)
          · rw [r3]; first | rfl | (rw [eg]; rfl)
        · skip
          have g3 : (decide ((k : Int) = 0) || decide (mxF (beyHiK l b n i) k < max (wLo b i * beyo n l[i] k) (wHi b i * beyo n l[i] k))) = false := hc3
          rw [← eg] at g3
          have r3 : mxF (beyHiK l b n i) (k + 1) = mxF (beyHiK l b n i) k := mx_else (by simpa using g3)
          refine AWp.skip ?_
          refine AWp.region ?_
          refine AList.c 35 rfl rfl rfl (OpJ.move rfl rfl) ?_
          refine AList.c 36 rfl rfl rfl (OpJ.add rfl rfl rfl (i64ok ?_)) ?_
          · omega
          refine AList.c 15 rfl rfl rfl (OpJ.assign rfl rfl) ?_
          refine AList.nil ?_
          refine ⟨k + 1, ?_, ?_, ?_⟩
          · simp at hc1; omega
          · simp at hc1; omega
          refine To.done [0] rfl ?_ rfl
          refine Sub.cons rfl (Sub.cons ?_ (Sub.cons ?_ (by repeat (first | exact Sub.nil | refine Sub.cons rfl ?_))))
          · rw [r2]; first | rfl | (rw [ef]; rfl)
          · rw [r3]; first | rfl | (rw [eg]; rfl)
    · skip
      obtain rfl : k = 8 := by simp at hc1; omega
      have hBi := hB i hk0
      unfold beyLo beyHi at hBi
      refine AWp.exit ?_
      refine AWp.seq ?_
      refine AWp.region ?_
      refine AList.c 121 rfl rfl rfl (OpJ.move rfl rfl) ?_
      refine AList.c 122 rfl rfl rfl (OpJ.move rfl rfl) ?_
      refine AList.c 123 rfl rfl rfl (OpJ.add rfl rfl rfl (i64ok ?_)) ?_
      · omega
      refine AList.c 8 rfl rfl rfl (OpJ.assign rfl rfl) ?_
      refine AList.nil ?_
      refine AWp.region ?_
      refine AList.c 124 rfl rfl rfl (OpJ.move rfl rfl) ?_
      refine AList.c 125 rfl rfl rfl (OpJ.move rfl rfl) ?_
      refine AList.c 126 rfl rfl rfl (OpJ.add rfl rfl rfl (i64ok ?_)) ?_
      · omega
      refine AList.c 9 rfl rfl rfl (OpJ.assign rfl rfl) ?_
      refine AList.nil ?_
      refine AWp.region ?_
      refine AList.c 21 rfl rfl rfl (OpJ.move rfl rfl) ?_
      refine AList.c 22 rfl rfl rfl (OpJ.add rfl rfl rfl (i64ok ?_)) ?_
      · omega
      refine AList.c 10 rfl rfl rfl (OpJ.assign rfl rfl) ?_
      refine AList.nil ?_
      refine ⟨i + 1, ?_, ?_, ?_⟩
      · simp at hc0; omega
      · simp at hc0; omega
      refine To.done [] rfl ?_ rfl
      refine Sub.cons rfl (Sub.cons rfl (Sub.cons rfl (by repeat (first | exact Sub.nil | refine Sub.cons rfl ?_))))
  · skip
    obtain rfl : i = l.length := by simp at hc0; omega
    refine AWp.exit ?_
    refine AWp.seq ?_
    refine AWp.region ?_
    refine AList.c 127 rfl rfl rfl (OpJ.move rfl rfl) ?_
    refine AList.c 128 rfl rfl rfl (OpJ.move rfl rfl) ?_
    refine AList.c 6 rfl rfl rfl (OpJ.assign rfl rfl) ?_
    refine AList.c 7 rfl rfl rfl (OpJ.assign rfl rfl) ?_
    refine AList.nil ?_
    refine AWp.ret ?_
    exact Fin.many (xs := [.int .i64 (isum (beyLo l b n) l.length), .int .i64 (isum (beyHi l b n) l.length)]) rfl (⟨_, _, rfl, rfl, ⟨_, _, rfl, rfl, rfl⟩⟩) rfl
end Go.Proofs.Ytmcejcidbekpkaa
