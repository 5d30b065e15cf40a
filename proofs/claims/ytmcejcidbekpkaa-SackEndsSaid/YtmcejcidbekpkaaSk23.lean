/-
  The law SackEnds.
-/
import Derived.Test.YtmcejcidbekpkaaSkFactsE
import Derived.Test.YtmcejcidbekpkaaSk22
import Derived.Test.YtmcejcidbekpkaaSkE
set_option linter.unusedVariables false
set_option maxRecDepth 100000
set_option maxHeartbeats 4000000
set_option linter.unusedSimpArgs false
namespace Go.Proofs.Ytmcejcidbekpkaa
open Go.AF
def bestB (l : List Sk) (b : List Tk) (j t : Nat) : Sp := ⟨mnF (oL l b j) t, mxF (oH l b j) t⟩
def bestL (l : List Sk) (b : List Tk) (t k : Nat) : List Sp := (List.range 6).map fun j => if j < k then bestB l b j (t + 1) else bestB l b j t
def ownL (l : List Sk) (b : List Tk) (t : Nat) : List Sp := (List.range 6).map fun k => ⟨oL l b k t, oH l b k t⟩
theorem bestL_length (l : List Sk) (b : List Tk) (t k : Nat) : (bestL l b t k).length = 6 := by simp [bestL]
theorem ownL_length (l : List Sk) (b : List Tk) (t : Nat) : (ownL l b t).length = 6 := by simp [ownL]
theorem bestL_get {l : List Sk} {b : List Tk} {t k : Nat} (h : k < (bestL l b t k).length) : (bestL l b t k)[k] = ⟨mnF (oL l b k) t, mxF (oH l b k) t⟩ := by simp [bestL, bestB]
theorem ownL_get {l : List Sk} {b : List Tk} {t k : Nat} (h : k < (ownL l b t).length) : (ownL l b t)[k] = ⟨oL l b k t, oH l b k t⟩ := by simp [ownL]
theorem bestL_set {l : List Sk} {b : List Tk} {t k : Nat} : (bestL l b t k).set k (bestB l b k (t + 1)) = bestL l b t (k + 1) := by
  apply List.ext_getElem
  · simp [bestL]
  · intro j h1 h2
    rw [List.getElem_set]
    by_cases e : k = j
    · subst e; simp [bestL]
    · rw [if_neg e]
      simp only [bestL, List.getElem_map, List.getElem_range]
      by_cases h3 : j < k
      · rw [if_pos h3, if_pos (by omega)]
      · rw [if_neg h3, if_neg (by omega)]
theorem bestL_set2 {l : List Sk} {b : List Tk} {t k : Nat} {y : Sp} : ((bestL l b t k).set k y).set k (bestB l b k (t + 1)) = bestL l b t (k + 1) := by rw [List.set_set, bestL_set]
theorem bestL_six (l : List Sk) (b : List Tk) (t : Nat) : bestL l b t 6 = bestL l b (t + 1) 0 := by
  apply List.ext_getElem
  · simp [bestL]
  · intro j h1 h2
    have : j < 6 := by simpa [bestL] using h1
    simp [bestL, this]
theorem best_cells (l : List Sk) (b : List Tk) (t : Nat) : ((bestL l b t 0).flatMap Sp.cells).map V.p = [.p (.int .i64 (mnF (oL l b 0) t)), .p (.int .i64 (mxF (oH l b 0) t)), .p (.int .i64 (mnF (oL l b 1) t)), .p (.int .i64 (mxF (oH l b 1) t)), .p (.int .i64 (mnF (oL l b 2) t)), .p (.int .i64 (mxF (oH l b 2) t)), .p (.int .i64 (mnF (oL l b 3) t)), .p (.int .i64 (mxF (oH l b 3) t)), .p (.int .i64 (mnF (oL l b 4) t)), .p (.int .i64 (mxF (oH l b 4) t)), .p (.int .i64 (mnF (oL l b 5) t)), .p (.int .i64 (mxF (oH l b 5) t))] := rfl
theorem own_cellsE (l : List Sk) (b : List Tk) (t : Nat) : ((ownL l b t).flatMap Sp.cells).map V.p = [.p (.int .i64 (oL l b 0 t)), .p (.int .i64 (oH l b 0 t)), .p (.int .i64 (oL l b 1 t)), .p (.int .i64 (oH l b 1 t)), .p (.int .i64 (oL l b 2 t)), .p (.int .i64 (oH l b 2 t)), .p (.int .i64 (oL l b 3 t)), .p (.int .i64 (oH l b 3 t)), .p (.int .i64 (oL l b 4 t)), .p (.int .i64 (oH l b 4 t)), .p (.int .i64 (oL l b 5 t)), .p (.int .i64 (oH l b 5 t))] := rfl
def fst0 : Nat → Bool
  | 0 => true
  | _ + 1 => false
theorem fst0_true {t : Nat} (h : fst0 t = true) : t = 0 := by cases t with | zero => rfl | succ n => cases h
theorem best_first {l : List Sk} {b : List Tk} {k t : Nat} (h : fst0 t = true) : (⟨min (oL l b k t) (oL l b k t), max (oH l b k t) (oH l b k t)⟩ : Sp) = bestB l b k (t + 1) := by
  obtain rfl := fst0_true h
  simp [bestB, mnF, mxF]
theorem best_next {l : List Sk} {b : List Tk} {k t : Nat} (h : fst0 t = false) : (⟨min (mnF (oL l b k) t) (oL l b k t), max (mxF (oH l b k) t) (oH l b k t)⟩ : Sp) = bestB l b k (t + 1) := by
  have : ¬ t = 0 := fun e => by subst e; cases h
  simp [bestB, mnF, mxF, this]
theorem oL_at (l : List Sk) (b : List Tk) (k i j : Nat) (h : j < 4) : oL l b k (4 * i + j) = sixL (sharpL l i l.length) (sharpB b j b.length) k ∧ oH l b k (4 * i + j) = sixH (sharpL l i l.length) (sharpB b j b.length) k := by
  unfold oL oH
  rw [show (4 * i + j) / 4 = i by omega, show (4 * i + j) % 4 = j by omega]
  exact ⟨rfl, rfl⟩
theorem oLB {l : List Sk} {b : List Tk} (hv : validB l b = true) (k t : Nat) : 0 ≤ oL l b k t ∧ oL l b k t ≤ 100000000 := by
  have v' := sharp_valid hv (t / 4) (t % 4)
  have h1 := wLH_B (okL_v v') (okB_v v').1 v' k
  have h2 := sc_B (okL_v v') (okB_v v').1
  unfold oL sixL shL
  rw [if_pos v']
  split <;> omega
theorem weigh_t (l : List Sk) (b : List Tk) (i j n m : Nat) (hj : j < 4) (hl : l.length ≤ bigN) (hb : b.length ≤ bigN) (hv : validB l b = true) (hn : l.length = n) (hm : b.length = m) : Pure Try.prog 11 [.is ((sharpL l i l.length).flatMap Sk.cells) n, .is ((sharpB b j b.length).flatMap Tk.cells) m] (.tuple [.agg [.int .i64 (oL l b 0 (4 * i + j)), .int .i64 (oH l b 0 (4 * i + j)), .int .i64 (oL l b 1 (4 * i + j)), .int .i64 (oH l b 1 (4 * i + j)), .int .i64 (oL l b 2 (4 * i + j)), .int .i64 (oH l b 2 (4 * i + j)), .int .i64 (oL l b 3 (4 * i + j)), .int .i64 (oH l b 3 (4 * i + j)), .int .i64 (oL l b 4 (4 * i + j)), .int .i64 (oH l b 4 (4 * i + j))], .int .i64 0]) := by
  have h := weigh_n (sharpL l i l.length) (sharpB b j b.length) (by rw [sharpL_length]; exact hl) (by rw [sharpB_length]; exact hb)
  have e : okE (sharpL l i l.length) (sharpB b j b.length) = 0 := by unfold okE; rw [if_pos (sharp_valid hv i j)]
  rw [e] at h
  simp only [(oL_at l b _ i j hj).1, (oL_at l b _ i j hj).2]
  have e1 : sacksV (sharpL l i l.length) = .is ((sharpL l i l.length).flatMap Sk.cells) n := by unfold sacksV; rw [sharpL_length, hn]
  have e2 : takesV (sharpB b j b.length) = .is ((sharpB b j b.length).flatMap Tk.cells) m := by unfold takesV; rw [sharpB_length, hm]
  rw [e1, e2] at h
  exact h
theorem share_t (l : List Sk) (b : List Tk) (i j n m : Nat) (hj : j < 4) (hl : l.length ≤ bigN) (hb : b.length ≤ bigN) (hv : validB l b = true) (hn : l.length = n) (hm : b.length = m) : Pure Try.prog 13 [.is ((sharpL l i l.length).flatMap Sk.cells) n, .is ((sharpB b j b.length).flatMap Tk.cells) m] (.tuple [.agg [.int .i64 (oL l b 5 (4 * i + j)), .int .i64 (oH l b 5 (4 * i + j))], .int .i64 0]) := by
  have h := share_n (sharpL l i l.length) (sharpB b j b.length) (by rw [sharpL_length]; exact hl) (by rw [sharpB_length]; exact hb)
  have e : okE (sharpL l i l.length) (sharpB b j b.length) = 0 := by unfold okE; rw [if_pos (sharp_valid hv i j)]
  rw [e] at h
  simp only [(oL_at l b _ i j hj).1, (oL_at l b _ i j hj).2]
  have e1 : sacksV (sharpL l i l.length) = .is ((sharpL l i l.length).flatMap Sk.cells) n := by unfold sacksV; rw [sharpL_length, hn]
  have e2 : takesV (sharpB b j b.length) = .is ((sharpB b j b.length).flatMap Tk.cells) m := by unfold takesV; rw [sharpB_length, hm]
  rw [e1, e2] at h
  exact h
theorem tkOne (l : List Tk) : (((l.flatMap Tk.cells).map V.p).all oneV) = true := by
  simp only [List.all_map, List.all_flatMap, List.all_eq_true]
  intro s _ x hx
  simp [Tk.cells] at hx
  rcases hx with h | h | h <;> subst h <;> rfl
theorem sharp_ok (l : List Sk) (bits : Nat) (hl : okL l) (hb : bits < 64) : Pure Try.prog 25 [sacksV l, .int .u32 (bits : Int)] (.is ((sharpL l bits l.length).flatMap Sk.cells) l.length) := by
  have hl8 := hl.1
  refine Pure.start (N := 46) Try.func25 rfl rfl (Nat.le_of_ble_eq_true rfl) ?_
  refine AWp.seq ?_
  refine AWp.region ?_
  refine AList.c 4 rfl rfl rfl (OpJ.assign rfl rfl) ?_
  refine AList.nil ?_
  refine AWp.seq ?_
  refine AWp.region ?_
  refine AList.c 5 rfl rfl rfl (OpJ.assign rfl rfl) ?_
  refine AList.nil ?_
  refine AWp.seq ?_
  refine AWp.seq ?_
  refine AWp.region ?_
  refine AList.c 6 rfl rfl rfl (OpJ.assign rfl rfl) ?_
  refine AList.nil ?_
  refine AWp.block ?_
  refine AWp.loopH [5, 6, 7, 8, 9, 10, 11, 12, 13, 14, 15, 16, 17, 18, 19, 20, 21, 22, 23, 24, 25, 26, 27, 28, 29, 30, 31, 32, 33, 34, 35, 36, 37, 38, 39, 40, 41, 42, 43, 44] (fun g => [(6, .p (.int .i64 ((g : Nat) : Int))), (5, accV 0 g)]) (fun g => [accB (((sharpL l bits g).flatMap Sk.cells).map .p) 57 g]) (fun g => g ≤ l.length) (fun g => l.length - g) 0 (by omega) (To.pad.trans (To.sub (Sub.chd (Sub.cons rfl (Sub.cons rfl Sub.nil))))) (fun i hg => ?_)
  refine AWp.seq ?_
  refine AWp.seq ?_
  refine AWp.region ?_
  refine AList.c 8 rfl rfl rfl (OpJ.move rfl rfl) ?_
  refine AList.c 9 rfl rfl rfl (OpJ.move rfl rfl) ?_
  refine AList.c 10 rfl rfl rfl (OpJ.lenSlice rfl rfl sl22 rfl) ?_
  refine AList.c 11 rfl rfl rfl (OpJ.lss rfl rfl rfl) ?_
  refine AList.nil ?_
  refine AWp.cond _ rfl (fun hc0 => ?_) (fun hc0 => ?_)
  · skip
    have hk0 : i < l.length := by simp at hc0; omega
    have e1 : l[i]?.getD zeroSk = l[i] := by rw [List.getElem?_eq_getElem hk0, Option.getD_some]
    have hk8 : bits / 2 ^ (3 * i) &&& 7 < 8 := Nat.lt_succ_of_le Nat.and_le_right
    have hdv : bits / 2 ^ (3 * i) ≤ bits := Nat.div_le_self _ _
    refine AWp.skip ?_
    refine AWp.seq ?_
    refine AWp.block ?_
    refine AWp.seq ?_
    refine AWp.regionDrawC 14 mixed (by kernel_rfl) (by decide) ?_
    refine AQuietC.cons 14 rfl rfl rfl (OpJ.move rfl rfl) (fun _ => (OpJ.move rfl rfl)) ?_
    refine AQuietC.cons 15 rfl rfl rfl (OpJ.move rfl rfl) (fun _ => (OpJ.move rfl rfl)) ?_
    refine AQuietC.cons 16 rfl rfl rfl (OpJ.indexEl rfl rfl rfl sl22 el22 rfl (fun _ => rfl) (by decide) hk0) (fun _ => (OpJ.indexEl rfl rfl rfl sl22 el22 rfl (fun _ => rfl) (by decide) hk0)) ?_
    refine AQuietC.cons 17 rfl rfl rfl (OpJ.load rfl rfl ty57 rfl) (fun _ => (OpJ.load rfl rfl ty57 rfl)) ?_
    refine AQuietC.cons 18 rfl rfl rfl (OpJ.callP (rCorners_ok l[i]) rfl rfl rfl rfl rf63) (fun _ => (OpJ.callP (rCorners_ok l[i]) rfl rfl rfl rfl rf63)) ?_
    refine AQuietC.cons 19 rfl rfl rfl (OpJ.move rfl rfl) (fun _ => (OpJ.move rfl rfl)) ?_
    refine AQuietC.cons 20 rfl rfl rfl (OpJ.move rfl rfl) (fun _ => (OpJ.move rfl rfl)) ?_
    refine AQuietC.cons 21 rfl rfl rfl (OpJ.mul (m := ((3 * i : Nat) : Int)) rfl rfl rfl ((i64ok ?_).trans ?_)) (fun _ => (OpJ.mul (m := ((3 * i : Nat) : Int)) rfl rfl rfl ((i64ok ?_).trans ?_))) ?_
    · omega
    · omega
    · omega
    · omega
    refine AQuietC.cons 22 rfl rfl rfl (OpJ.shrN bits (3 * i) rfl rfl rfl (by first | decide | (show _ ≤ (9223372036854775807 : Int); omega) | (show _ ≤ (4294967295 : Int); omega))) (fun _ => (OpJ.shrN bits (3 * i) rfl rfl rfl (by first | decide | (show _ ≤ (9223372036854775807 : Int); omega) | (show _ ≤ (4294967295 : Int); omega)))) ?_
    refine AQuietC.cons 23 rfl rfl rfl (OpJ.andN (bits / 2 ^ (3 * i)) 7 rfl rfl rfl (by first | (show _ ≤ (9223372036854775807 : Int); omega) | (show _ ≤ (4294967295 : Int); omega)) (by decide)) (fun _ => (OpJ.andN (bits / 2 ^ (3 * i)) 7 rfl rfl rfl (by first | (show _ ≤ (9223372036854775807 : Int); omega) | (show _ ≤ (4294967295 : Int); omega)) (by decide))) ?_
    refine AQuietC.cons 24 rfl rfl rfl (OpJ.indexWin rfl rfl rfl sl41 el41 hk8 (corner_win _ hk8) (corner_ne _)) (fun _ => (OpJ.indexWin rfl rfl rfl sl41 el41 hk8 (corner_win _ hk8) (corner_ne _))) ?_
    refine AQuietC.cons 25 rfl rfl rfl (OpJ.load rfl rfl ty88 rfl) (fun _ => (OpJ.load rfl rfl ty88 rfl)) ?_
    refine AQuietC.lay 7 rfl rfl rfl (OpJ.allocOwn rfl zr88 rfl) ?_
    refine AQuietC.put rfl rfl (by decide) (OpJ.store rfl rfl rfl rfl rfl ty88 rfl rfl) rfl ?_
    refine AQuietC.nil ?_
    refine AList.nil ?_
    refine AWp.regionDraw 18 mixed (by kernel_rfl) (by decide) ?_
    refine AQuiet.cons 26 rfl rfl rfl (OpJ.move rfl rfl) ?_
    refine AQuiet.cons 27 rfl rfl rfl (OpJ.fieldAddr rfl rfl fd88_0 rfl) ?_
    refine AQuiet.cons 28 rfl rfl rfl (OpJ.load rfl rfl ty3 rfl) ?_
    refine AQuiet.cons 29 rfl rfl rfl (OpJ.fieldAddr rfl rfl fd88_0 rfl) ?_
    refine AQuiet.cons 30 rfl rfl rfl (OpJ.load rfl rfl ty3 rfl) ?_
    refine AQuiet.cons 31 rfl rfl rfl (OpJ.callP (lspan_ok _ _) rfl rfl rfl rfl rf24) ?_
    refine AQuiet.cons 32 rfl rfl rfl (OpJ.fieldAddr rfl rfl fd88_1 rfl) ?_
    refine AQuiet.cons 33 rfl rfl rfl (OpJ.load rfl rfl ty3 rfl) ?_
    refine AQuiet.cons 34 rfl rfl rfl (OpJ.fieldAddr rfl rfl fd88_1 rfl) ?_
    refine AQuiet.cons 35 rfl rfl rfl (OpJ.load rfl rfl ty3 rfl) ?_
    refine AQuiet.cons 36 rfl rfl rfl (OpJ.callP (lspan_ok _ _) rfl rfl rfl rfl rf24) ?_
    refine AQuiet.cons 37 rfl rfl rfl (OpJ.fieldAddr rfl rfl fd88_2 rfl) ?_
    refine AQuiet.cons 38 rfl rfl rfl (OpJ.load rfl rfl ty3 rfl) ?_
    refine AQuiet.cons 39 rfl rfl rfl (OpJ.fieldAddr rfl rfl fd88_2 rfl) ?_
    refine AQuiet.cons 40 rfl rfl rfl (OpJ.load rfl rfl ty3 rfl) ?_
    refine AQuiet.cons 41 rfl rfl rfl (OpJ.callP (lspan_ok _ _) rfl rfl rfl rfl rf24) ?_
    refine AQuiet.cons 42 rfl rfl rfl (OpJ.build rfl bd57 rfl rfl) ?_
    refine AQuiet.cons 43 rfl rfl rfl (OpJ.buildImm rfl slz22 (by decide) rfl rfl rfl) ?_
    refine AQuiet.nil ?_
    refine AList.c 44 rfl rfl rfl (OpJ.appendAcc rfl rfl rfl slz22 sl22 rfl ?_ rfl (by decide) rfl by57 (by decide) ?_) ?_
    · rw [List.length_map, flat_len (c := 6) (fun _ => rfl), sharpL_length]; rfl
    · omega
    refine AList.c 5 rfl rfl rfl (OpJ.assign rfl rfl) ?_
    refine AList.nil ?_
    refine AWp.region ?_
    refine AList.c 12 rfl rfl rfl (OpJ.move rfl rfl) ?_
    refine AList.c 13 rfl rfl rfl (OpJ.add rfl rfl rfl (i64ok ?_)) ?_
    · omega
    refine AList.c 6 rfl rfl rfl (OpJ.assign rfl rfl) ?_
    refine AList.nil ?_
    refine ⟨i + 1, ?_, ?_, ?_⟩
    · omega
    · omega
    refine To.done [2] rfl (by repeat (first | exact Sub.nil | refine Sub.cons rfl ?_)) ?_
    show [Blk.row (renL _ (_ ++ _)) _] = [Blk.row _ _]
    rw [renL_app, renL_pure, sharpL_succ, List.flatMap_append, List.map_append, e1]
    rfl
  · skip
    obtain rfl : i = l.length := by simp at hc0; omega
    refine AWp.to (To.accD 5 0 l.length rfl rfl (fun h => by rw [h]; rfl)) ?_
    refine AWp.exit ?_
    refine AWp.seq ?_
    refine AWp.region ?_
    refine AList.c 45 rfl rfl rfl (OpJ.move rfl rfl) ?_
    refine AList.c 4 rfl rfl rfl (OpJ.assign rfl rfl) ?_
    refine AList.nil ?_
    refine AWp.ret ?_
    refine Fin.oneE rfl rfl ?_
    rfl
theorem SackEnds_ok (l : List Sk) (b : List Tk) (hl : l.length ≤ bigN) (hb : b.length ≤ bigN) : Pure Try.prog 6 [sacksV l, takesV b] (.bool true) := by
  refine Pure.start (N := 197) Try.func6 rfl rfl (Nat.le_of_ble_eq_true rfl) ?_
  refine AWp.seq ?_
  refine AWp.region ?_
  refine AList.c 4 rfl rfl rfl (OpJ.assign rfl rfl) ?_
  refine AList.nil ?_
  refine AWp.seq ?_
  refine AWp.seq ?_
  refine AWp.region ?_
  refine AList.c 23 rfl rfl rfl (OpJ.move rfl rfl) ?_
  refine AList.c 24 rfl rfl rfl (OpJ.lenSlice rfl rfl sl22 rfl) ?_
  refine AList.c 25 rfl rfl rfl (OpJ.gtr rfl rfl rfl) ?_
  refine AList.c 26 rfl rfl rfl (OpJ.move rfl rfl) ?_
  refine AList.g 27 26 rfl rfl rfl rfl rfl rfl rfl [(1, _)] (fun h => And.intro (.inl rfl) (trivial)) (fun h => (OpJ.move rfl rfl)) ?_
  refine AList.g 28 26 rfl rfl rfl rfl rfl rfl rfl [(27, _)] (fun h => And.intro (.inr ⟨_, rfl, h⟩) (trivial)) (fun h => (OpJ.lenSlice rfl rfl sl23 rfl)) ?_
  refine AList.g 29 26 rfl rfl rfl rfl rfl rfl rfl [(28, _)] (fun h => And.intro (.inr ⟨_, rfl, h⟩) (trivial)) (fun h => (OpJ.gtr rfl rfl rfl)) ?_
  refine AList.c 30 rfl rfl rfl (OpJ.or_ rfl rfl rfl ?_) ?_
  · first | (intro h; rw [h]; rfl) | (intro h; simp_all)
  refine AList.c 31 rfl rfl rfl (OpJ.move rfl rfl) ?_
  refine AList.g 32 31 rfl rfl rfl rfl rfl rfl rfl [(0, _)] (fun h => And.intro (.inl rfl) (trivial)) (fun h => (OpJ.move rfl rfl)) ?_
  refine AList.g 33 31 rfl rfl rfl rfl rfl rfl rfl [(32, _)] (fun h => And.intro (.inr ⟨_, rfl, h⟩) (trivial)) (fun h => (OpJ.callP (rSacks_ok l hl) rfl rfl rfl rfl rf19)) ?_
  refine AList.g 34 31 rfl rfl rfl rfl rfl rfl rfl [(33, _)] (fun h => And.intro (.inr ⟨_, rfl, h⟩) (trivial)) (fun h => (OpJ.not_ rfl rfl)) ?_
  refine AList.c 35 rfl rfl rfl (OpJ.or_ rfl rfl rfl ?_) ?_
  · first | (intro h; rw [h]; rfl) | (intro h; simp_all)
  refine AList.c 36 rfl rfl rfl (OpJ.move rfl rfl) ?_
  refine AList.g 37 36 rfl rfl rfl rfl rfl rfl rfl [(0, _)] (fun h => And.intro (.inl rfl) (trivial)) (fun h => (OpJ.move rfl rfl)) ?_
  refine AList.g 38 36 rfl rfl rfl rfl rfl rfl rfl [(1, _)] (fun h => And.intro (.inl rfl) (trivial)) (fun h => (OpJ.move rfl rfl)) ?_
  refine AList.g 39 36 rfl rfl rfl rfl rfl rfl rfl [(37, _), (38, _)] (fun h => And.intro (.inr ⟨_, rfl, h⟩) (And.intro (.inr ⟨_, rfl, h⟩) (trivial))) (fun h => (OpJ.callP (rBatch_ok l b hl hb) rfl rfl rfl rfl rf20)) ?_
  refine AList.g 40 36 rfl rfl rfl rfl rfl rfl rfl [(39, _)] (fun h => And.intro (.inr ⟨_, rfl, h⟩) (trivial)) (fun h => (OpJ.not_ rfl rfl)) ?_
  refine AList.c 41 rfl rfl rfl (OpJ.or_ rfl rfl rfl ?_) ?_
  · first | (intro h; rw [h]; rfl) | (intro h; simp_all)
  refine AList.nil ?_
  refine AWp.cond _ rfl (fun hc0 => ?_) (fun hc0 => ?_)
  · skip
    refine AWp.seq ?_
    refine AWp.region ?_
    refine AList.c 42 rfl rfl rfl (OpJ.callP (awake_ok) rfl rfl rfl rfl rf10) ?_
    refine AList.c 4 rfl rfl rfl (OpJ.assign rfl rfl) ?_
    refine AList.nil ?_
    refine AWp.ret ?_
    refine Fin.oneE rfl rfl ?_
    rfl
  · skip
    have hv : validB l b = true := by unfold validB; simp at hc0; simp [hc0]
    have okl := okL_v hv
    have okb := okB_v hv
    have hl2 : l.length ≤ 2 := by simp at hc0; omega
    have hb2 : b.length ≤ 2 := by simp at hc0; omega
    have hok : okE l b = 0 := by simp [okE, hv]
    refine AWp.skip ?_
    refine AWp.seq ?_
    refine AWp.region ?_
    refine AList.c 44 rfl rfl rfl (OpJ.move rfl rfl) ?_
    refine AList.c 45 rfl rfl rfl (OpJ.move rfl rfl) ?_
    refine AList.c 46 rfl rfl rfl (OpJ.callP (weigh_n l b hl hb) rfl rfl rfl rfl rf11) ?_
    refine AList.c 43 rfl rfl rfl (OpJ.move rfl rfl) ?_
    refine AList.c 47 rfl rfl rfl (OpJ.extract rfl rfl rfl) ?_
    refine AList.c 48 rfl rfl rfl (OpJ.extract rfl rfl rfl) ?_
    refine AList.c 5 rfl rfl rfl (OpJ.allocOwn rfl zr29 rfl) ?_
    refine AList.c0 rfl rfl (OpJ.store rfl rfl rfl rfl rfl ty29 rfl rfl) ?_
    refine AList.c 6 rfl rfl rfl (OpJ.assign rfl rfl) ?_
    refine AList.nil ?_
    refine AWp.seq ?_
    refine AWp.region ?_
    refine AList.c 50 rfl rfl rfl (OpJ.move rfl rfl) ?_
    refine AList.c 51 rfl rfl rfl (OpJ.move rfl rfl) ?_
    refine AList.c 52 rfl rfl rfl (OpJ.callP (share_n l b hl hb) rfl rfl rfl rfl rf13) ?_
    refine AList.c 49 rfl rfl rfl (OpJ.move rfl rfl) ?_
    refine AList.c 53 rfl rfl rfl (OpJ.extract rfl rfl rfl) ?_
    refine AList.c 54 rfl rfl rfl (OpJ.extract rfl rfl rfl) ?_
    refine AList.c 7 rfl rfl rfl (OpJ.allocOwn rfl zr25 rfl) ?_
    refine AList.c0 rfl rfl (OpJ.store rfl rfl rfl rfl rfl ty25 rfl rfl) ?_
    refine AList.c 8 rfl rfl rfl (OpJ.assign rfl rfl) ?_
    refine AList.nil ?_
    refine AWp.seq ?_
    refine AWp.seq ?_
    refine AWp.region ?_
    refine AList.c 55 rfl rfl rfl (OpJ.move rfl rfl) ?_
    refine AList.c 56 rfl rfl rfl (OpJ.neq rfl rfl rfl) ?_
    refine AList.c 57 rfl rfl rfl (OpJ.move rfl rfl) ?_
    refine AList.g 58 57 rfl rfl rfl rfl rfl rfl rfl [(8, _)] (fun h => And.intro (.inl rfl) (trivial)) (fun h => (OpJ.move rfl rfl)) ?_
    refine AList.g 59 57 rfl rfl rfl rfl rfl rfl rfl [(58, _)] (fun h => And.intro (.inr ⟨_, rfl, h⟩) (trivial)) (fun h => (OpJ.neq rfl rfl rfl)) ?_
    refine AList.c 60 rfl rfl rfl (OpJ.or_ rfl rfl rfl ?_) ?_
    · first | (intro h; rw [h]; rfl) | (intro h; simp_all)
    refine AList.nil ?_
    refine AWp.cond _ rfl (fun hc1 => ?_) (fun hc1 => ?_)
    · skip
      exfalso
      rw [hok] at hc1
      simp at hc1
    · skip
      refine AWp.skip ?_
      refine AWp.seq ?_
      refine AWp.norm [0, 1] [(0, .p (sacksV l)), (1, .p (takesV b)), (5, .ptr 0 0), (7, .ptr 1 0)] [.cells [.p (.int .i64 (wL l b 0)), .p (.int .i64 (wH l b 0)), .p (.int .i64 (wL l b 1)), .p (.int .i64 (wH l b 1)), .p (.int .i64 (wL l b 2)), .p (.int .i64 (wH l b 2)), .p (.int .i64 (wL l b 3)), .p (.int .i64 (wH l b 3)), .p (.int .i64 (wL l b 4)), .p (.int .i64 (wH l b 4))] 29, .cells [.p (.int .i64 (shL l b)), .p (.int .i64 (shH l b))] 25] rfl (by repeat (first | exact Sub.nil | refine Sub.cons rfl ?_)) rfl ?_
      refine AWp.region ?_
      refine AList.c 61 rfl rfl rfl (OpJ.fieldAddr rfl rfl fd29_0 rfl) ?_
      refine AList.c 62 rfl rfl rfl (OpJ.load rfl rfl ty25 rfl) ?_
      refine AList.c 63 rfl rfl rfl (OpJ.fieldAddr rfl rfl fd29_1 rfl) ?_
      refine AList.c 64 rfl rfl rfl (OpJ.load rfl rfl ty25 rfl) ?_
      refine AList.c 65 rfl rfl rfl (OpJ.fieldAddr rfl rfl fd29_2 rfl) ?_
      refine AList.c 66 rfl rfl rfl (OpJ.load rfl rfl ty25 rfl) ?_
      refine AList.c 67 rfl rfl rfl (OpJ.fieldAddr rfl rfl fd29_3 rfl) ?_
      refine AList.c 68 rfl rfl rfl (OpJ.load rfl rfl ty25 rfl) ?_
      refine AList.c 69 rfl rfl rfl (OpJ.fieldAddr rfl rfl fd29_4 rfl) ?_
      refine AList.c 70 rfl rfl rfl (OpJ.load rfl rfl ty25 rfl) ?_
      refine AList.c 71 rfl rfl rfl (OpJ.load rfl rfl ty25 rfl) ?_
      refine AList.c 72 rfl rfl rfl (OpJ.build rfl bd49 rfl rfl) ?_
      refine AList.c 9 rfl rfl rfl (OpJ.allocOwn rfl zr49 rfl) ?_
      refine AList.c0 rfl rfl (OpJ.store rfl rfl rfl rfl rfl ty49 rfl rfl) ?_
      refine AList.nil ?_
      refine AWp.seq ?_
      refine AWp.region ?_
      refine AList.c 10 rfl rfl rfl (OpJ.allocOwn rfl zr49 rfl) ?_
      refine AList.nil ?_
      refine AWp.seq ?_
      refine AWp.norm [0, 1, 2, 3] [(0, .p (sacksV l)), (1, .p (takesV b)), (5, .ptr 0 0), (7, .ptr 1 0), (9, .ptr 2 0), (10, .ptr 3 0)] [.cells [.p (.int .i64 (wL l b 0)), .p (.int .i64 (wH l b 0)), .p (.int .i64 (wL l b 1)), .p (.int .i64 (wH l b 1)), .p (.int .i64 (wL l b 2)), .p (.int .i64 (wH l b 2)), .p (.int .i64 (wL l b 3)), .p (.int .i64 (wH l b 3)), .p (.int .i64 (wL l b 4)), .p (.int .i64 (wH l b 4))] 29, .cells [.p (.int .i64 (shL l b)), .p (.int .i64 (shH l b))] 25, .cells [.p (.int .i64 (wL l b 0)), .p (.int .i64 (wH l b 0)), .p (.int .i64 (wL l b 1)), .p (.int .i64 (wH l b 1)), .p (.int .i64 (wL l b 2)), .p (.int .i64 (wH l b 2)), .p (.int .i64 (wL l b 3)), .p (.int .i64 (wH l b 3)), .p (.int .i64 (wL l b 4)), .p (.int .i64 (wH l b 4)), .p (.int .i64 (shL l b)), .p (.int .i64 (shH l b))] 49, .cells (((bestL l b (0) 0).flatMap Sp.cells).map .p) 49] rfl (by repeat (first | exact Sub.nil | refine Sub.cons rfl ?_)) (by rw [best_cells]; rfl) ?_
      refine AWp.region ?_
      refine AList.c 11 rfl rfl rfl (OpJ.assign rfl rfl) ?_
      refine AList.nil ?_
      refine AWp.seq ?_
      refine AWp.seq ?_
      refine AWp.region ?_
      refine AList.c 12 rfl rfl rfl (OpJ.assign rfl rfl) ?_
      refine AList.nil ?_
      refine AWp.block ?_
      refine AWp.loopH [4, 11, 12, 13, 14, 15, 16, 17, 18, 19, 20, 21, 22, 73, 74, 75, 76, 77, 78, 79, 80, 81, 82, 83, 84, 85, 86, 87, 88, 89, 90, 91, 92, 93, 94, 95, 96, 97, 98, 99, 100, 101, 102, 103, 104, 105, 106, 107, 108, 109, 110, 111, 112, 113, 114, 115, 116, 117, 118, 119, 120, 121, 122, 123, 124, 125, 126, 127, 128, 129, 130, 131, 132, 133, 134, 135, 136, 137, 138, 139, 140, 141, 142, 143, 144, 145, 146, 147, 148, 149, 150, 151, 152, 153, 154, 155, 156, 157, 158, 159, 160, 161, 162, 163, 164, 165, 166, 167, 168, 169, 170, 171, 172, 173, 174, 175, 176, 177, 178, 179, 180, 181, 182, 183, 184, 185, 186, 187, 188, 189, 190] (fun g => [(12, .p (.int .i64 ((g : Nat) : Int))), (11, .p (.bool (fst0 (4 * g))))]) (fun g => [.cells [.p (.int .i64 (wL l b 0)), .p (.int .i64 (wH l b 0)), .p (.int .i64 (wL l b 1)), .p (.int .i64 (wH l b 1)), .p (.int .i64 (wL l b 2)), .p (.int .i64 (wH l b 2)), .p (.int .i64 (wL l b 3)), .p (.int .i64 (wH l b 3)), .p (.int .i64 (wL l b 4)), .p (.int .i64 (wH l b 4))] 29, .cells [.p (.int .i64 (shL l b)), .p (.int .i64 (shH l b))] 25, .cells [.p (.int .i64 (wL l b 0)), .p (.int .i64 (wH l b 0)), .p (.int .i64 (wL l b 1)), .p (.int .i64 (wH l b 1)), .p (.int .i64 (wL l b 2)), .p (.int .i64 (wH l b 2)), .p (.int .i64 (wL l b 3)), .p (.int .i64 (wH l b 3)), .p (.int .i64 (wL l b 4)), .p (.int .i64 (wH l b 4)), .p (.int .i64 (shL l b)), .p (.int .i64 (shH l b))] 49, .cells (((bestL l b (4 * g) 0).flatMap Sp.cells).map .p) 49]) (fun g => g ≤ 64) (fun g => 64 - g) 0 (by omega) (To.sub (Sub.chd (Sub.cons rfl (Sub.cons rfl Sub.nil)))) (fun i hg => ?_)
      refine AWp.seq ?_
      refine AWp.seq ?_
      refine AWp.region ?_
      refine AList.c 73 rfl rfl rfl (OpJ.move rfl rfl) ?_
      refine AList.c 74 rfl rfl rfl (OpJ.lss rfl rfl rfl) ?_
      refine AList.nil ?_
      refine AWp.cond _ rfl (fun hc2 => ?_) (fun hc2 => ?_)
      · skip
        have hi64 : i < 64 := by simp at hc2; omega
        refine AWp.skip ?_
        refine AWp.seq ?_
        refine AWp.block ?_
        refine AWp.seq ?_
        refine AWp.region ?_
        refine AList.c 13 rfl rfl rfl (OpJ.assign rfl rfl) ?_
        refine AList.nil ?_
        refine AWp.block ?_
        refine AWp.norm [0, 1, 2, 3] [(0, .p (sacksV l)), (1, .p (takesV b)), (5, .ptr 0 0), (7, .ptr 1 0), (9, .ptr 2 0), (10, .ptr 3 0), (11, .p (.bool (fst0 (4 * i)))), (12, .p (.int .i64 (i : Int))), (13, .p (.int .i64 0))] [.cells [.p (.int .i64 (wL l b 0)), .p (.int .i64 (wH l b 0)), .p (.int .i64 (wL l b 1)), .p (.int .i64 (wH l b 1)), .p (.int .i64 (wL l b 2)), .p (.int .i64 (wH l b 2)), .p (.int .i64 (wL l b 3)), .p (.int .i64 (wH l b 3)), .p (.int .i64 (wL l b 4)), .p (.int .i64 (wH l b 4))] 29, .cells [.p (.int .i64 (shL l b)), .p (.int .i64 (shH l b))] 25, .cells [.p (.int .i64 (wL l b 0)), .p (.int .i64 (wH l b 0)), .p (.int .i64 (wL l b 1)), .p (.int .i64 (wH l b 1)), .p (.int .i64 (wL l b 2)), .p (.int .i64 (wH l b 2)), .p (.int .i64 (wL l b 3)), .p (.int .i64 (wH l b 3)), .p (.int .i64 (wL l b 4)), .p (.int .i64 (wH l b 4)), .p (.int .i64 (shL l b)), .p (.int .i64 (shH l b))] 49, .cells (((bestL l b (4 * i) 0).flatMap Sp.cells).map .p) 49] rfl (by repeat (first | exact Sub.nil | refine Sub.cons rfl ?_)) (by show [_, _, _, Blk.cells (renL _ _) _] = _; rw [renL_pure]; rfl) ?_
        refine AWp.loopH [4, 11, 13, 14, 15, 16, 17, 18, 19, 20, 21, 22, 77, 78, 79, 80, 81, 82, 83, 84, 85, 86, 87, 88, 89, 90, 91, 92, 93, 94, 95, 96, 97, 98, 99, 100, 101, 102, 103, 104, 105, 106, 107, 108, 109, 110, 111, 112, 113, 114, 115, 116, 117, 118, 119, 120, 121, 122, 123, 124, 125, 126, 127, 128, 129, 130, 131, 132, 133, 134, 135, 136, 137, 138, 139, 140, 141, 142, 143, 144, 145, 146, 147, 148, 149, 150, 151, 152, 153, 154, 155, 156, 157, 158, 159, 160, 161, 162, 163, 164, 165, 166, 167, 168, 169, 170, 171, 172, 173, 174, 175, 176, 177, 178, 179, 180, 181, 182, 183, 184, 185, 186, 187, 188, 189, 190] (fun g => [(13, .p (.int .i64 ((g : Nat) : Int))), (11, .p (.bool (fst0 (4 * i + g))))]) (fun g => [.cells [.p (.int .i64 (wL l b 0)), .p (.int .i64 (wH l b 0)), .p (.int .i64 (wL l b 1)), .p (.int .i64 (wH l b 1)), .p (.int .i64 (wL l b 2)), .p (.int .i64 (wH l b 2)), .p (.int .i64 (wL l b 3)), .p (.int .i64 (wH l b 3)), .p (.int .i64 (wL l b 4)), .p (.int .i64 (wH l b 4))] 29, .cells [.p (.int .i64 (shL l b)), .p (.int .i64 (shH l b))] 25, .cells [.p (.int .i64 (wL l b 0)), .p (.int .i64 (wH l b 0)), .p (.int .i64 (wL l b 1)), .p (.int .i64 (wH l b 1)), .p (.int .i64 (wL l b 2)), .p (.int .i64 (wH l b 2)), .p (.int .i64 (wL l b 3)), .p (.int .i64 (wH l b 3)), .p (.int .i64 (wL l b 4)), .p (.int .i64 (wH l b 4)), .p (.int .i64 (shL l b)), .p (.int .i64 (shH l b))] 49, .cells (((bestL l b (4 * i + g) 0).flatMap Sp.cells).map .p) 49]) (fun g => g ≤ 4) (fun g => 4 - g) 0 (by omega) (To.sub (Sub.chd (Sub.cons rfl (Sub.cons rfl Sub.nil)))) (fun j hg => ?_)
        refine AWp.seq ?_
        refine AWp.seq ?_
        refine AWp.region ?_
        refine AList.c 77 rfl rfl rfl (OpJ.move rfl rfl) ?_
        refine AList.c 78 rfl rfl rfl (OpJ.lss rfl rfl rfl) ?_
        refine AList.nil ?_
        refine AWp.cond _ rfl (fun hc3 => ?_) (fun hc3 => ?_)
        · skip
          have hj4 : j < 4 := by simp at hc3; omega
          refine AWp.skip ?_
          refine AWp.seq ?_
          refine AWp.block ?_
          refine AWp.seq ?_
          refine AWp.region ?_
          refine AList.c 81 rfl rfl rfl (OpJ.buildOwn rfl slz23 (by decide) rfl rfl) ?_
          refine AList.c 82 rfl rfl rfl (OpJ.move rfl rfl) ?_
          refine AList.c 83 rfl rfl rfl (OpJ.appendRow rfl rfl rfl slz23 sl23 rfl ?_ (asrc_is (by rw [flat_len (c := 3) (fun _ => rfl)]; rfl)) (tkOne b) by51 (by decide) ?_) ?_
          · rfl
          · omega
          refine AList.c 14 rfl rfl rfl (OpJ.assign rfl rfl) ?_
          refine AList.nil ?_
          refine AWp.seq ?_
          refine AWp.seq ?_
          refine AWp.norm [0, 1, 2, 3, 5] [(0, .p (sacksV l)), (1, .p (takesV b)), (5, .ptr 0 0), (7, .ptr 1 0), (9, .ptr 2 0), (10, .ptr 3 0), (11, .p (.bool (fst0 (4 * i + j)))), (12, .p (.int .i64 (i : Int))), (13, .p (.int .i64 (j : Int))), (14, .row 4 (0 + b.length))] [.cells [.p (.int .i64 (wL l b 0)), .p (.int .i64 (wH l b 0)), .p (.int .i64 (wL l b 1)), .p (.int .i64 (wH l b 1)), .p (.int .i64 (wL l b 2)), .p (.int .i64 (wH l b 2)), .p (.int .i64 (wL l b 3)), .p (.int .i64 (wH l b 3)), .p (.int .i64 (wL l b 4)), .p (.int .i64 (wH l b 4))] 29, .cells [.p (.int .i64 (shL l b)), .p (.int .i64 (shH l b))] 25, .cells [.p (.int .i64 (wL l b 0)), .p (.int .i64 (wH l b 0)), .p (.int .i64 (wL l b 1)), .p (.int .i64 (wH l b 1)), .p (.int .i64 (wL l b 2)), .p (.int .i64 (wH l b 2)), .p (.int .i64 (wL l b 3)), .p (.int .i64 (wH l b 3)), .p (.int .i64 (wL l b 4)), .p (.int .i64 (wH l b 4)), .p (.int .i64 (shL l b)), .p (.int .i64 (shH l b))] 49, .cells (((bestL l b (4 * i + j) 0).flatMap Sp.cells).map .p) 49, .row (((sharpB b j 0).flatMap Tk.cells).map .p) 51] rfl (by repeat (first | exact Sub.nil | refine Sub.cons rfl ?_)) (by rw [sharpB_zero]; show [_, _, _, Blk.cells (renL _ _) _, Blk.row (renL _ (_ ++ _)) _] = _; rw [renL_app, renL_pure, renL_pure (pl [0, 1, 2, 3, 5]) (b.flatMap Tk.cells)]; rfl) ?_
          refine AWp.region ?_
          refine AList.c 15 rfl rfl rfl (OpJ.assign rfl rfl) ?_
          refine AList.nil ?_
          refine AWp.block ?_
          refine AWp.loopH [15, 16, 84, 85, 86, 87, 88, 89, 90, 91, 92, 93, 94, 95, 96, 97, 98, 99, 100, 101, 102, 103, 104, 105, 106, 107, 108, 109, 110, 111, 112, 113] (fun g => [(15, .p (.int .i64 ((g : Nat) : Int)))]) (fun g => [.cells [.p (.int .i64 (wL l b 0)), .p (.int .i64 (wH l b 0)), .p (.int .i64 (wL l b 1)), .p (.int .i64 (wH l b 1)), .p (.int .i64 (wL l b 2)), .p (.int .i64 (wH l b 2)), .p (.int .i64 (wL l b 3)), .p (.int .i64 (wH l b 3)), .p (.int .i64 (wL l b 4)), .p (.int .i64 (wH l b 4))] 29, .cells [.p (.int .i64 (shL l b)), .p (.int .i64 (shH l b))] 25, .cells [.p (.int .i64 (wL l b 0)), .p (.int .i64 (wH l b 0)), .p (.int .i64 (wL l b 1)), .p (.int .i64 (wH l b 1)), .p (.int .i64 (wL l b 2)), .p (.int .i64 (wH l b 2)), .p (.int .i64 (wL l b 3)), .p (.int .i64 (wH l b 3)), .p (.int .i64 (wL l b 4)), .p (.int .i64 (wH l b 4)), .p (.int .i64 (shL l b)), .p (.int .i64 (shH l b))] 49, .cells (((bestL l b (4 * i + j) 0).flatMap Sp.cells).map .p) 49, .row (((sharpB b j g).flatMap Tk.cells).map .p) 51]) (fun g => g ≤ b.length) (fun g => b.length - g) 0 (by omega) (To.sub (Sub.chd (Sub.cons rfl Sub.nil))) (fun m hg => ?_)
          refine AWp.seq ?_
          refine AWp.seq ?_
          refine AWp.region ?_
          refine AList.c 84 rfl rfl rfl (OpJ.move rfl rfl) ?_
          refine AList.c 85 rfl rfl rfl (OpJ.move rfl rfl) ?_
          refine AList.c 86 rfl rfl rfl (OpJ.lenSlice rfl rfl sl23 rfl) ?_
          refine AList.c 87 rfl rfl rfl (OpJ.lss rfl rfl rfl) ?_
          refine AList.nil ?_
          refine AWp.cond _ rfl (fun hc4 => ?_) (fun hc4 => ?_)
          · skip
            have hk0 : m < b.length := by simp at hc4; omega
            have hdv : j / 2 ^ m ≤ j := Nat.div_le_self _ _
            refine AWp.skip ?_
            refine AWp.seq ?_
            refine AWp.block ?_
            refine AWp.seq ?_
            refine AWp.region ?_
            refine AList.c 90 rfl rfl rfl (OpJ.move rfl rfl) ?_
            refine AList.c 91 rfl rfl rfl (OpJ.move rfl rfl) ?_
            refine AList.c 92 rfl rfl rfl (OpJ.indexRow rfl rfl rfl sl23 el23 (by omega)) ?_
            refine AList.c 93 rfl rfl rfl (OpJ.fieldAddr rfl rfl fd51_1 rfl) ?_
            refine AList.c 94 rfl rfl rfl (OpJ.fieldAddr rfl rfl fd25_0 rfl) ?_
            refine AList.c 95 rfl rfl rfl (OpJ.loadFlat (f := Tk.cells) (c := 3) (k := m) (j := 1) (xs := (sharpB b j m)) rfl rfl ty3 rfl rfl (by omega) (fun _ => rfl) (by rw [sharpB_length]; exact hk0) (Nat.le_of_ble_eq_true rfl) (show _ = PV.int .i64 (bAt b m).m.lo from by rw [sharpB_get hk0, if_neg (Nat.lt_irrefl _)]; rfl)) ?_
            refine AList.c 16 rfl rfl rfl (OpJ.assign rfl rfl) ?_
            refine AList.nil ?_
            refine AWp.seq ?_
            refine AWp.seq ?_
            refine AWp.region ?_
            refine AList.c 96 rfl rfl rfl (OpJ.move rfl rfl) ?_
            refine AList.c 97 rfl rfl rfl (OpJ.move rfl rfl) ?_
            refine AList.c 98 rfl rfl rfl (OpJ.shrN j m rfl rfl rfl (by first | decide | (show _ ≤ (9223372036854775807 : Int); omega) | (show _ ≤ (4294967295 : Int); omega))) ?_
            refine AList.c 99 rfl rfl rfl (OpJ.andN (j / 2 ^ m) 1 rfl rfl rfl (by first | (show _ ≤ (9223372036854775807 : Int); omega) | (show _ ≤ (4294967295 : Int); omega)) (by decide)) ?_
            refine AList.c 100 rfl rfl rfl (OpJ.eql rfl rfl rfl) ?_
            refine AList.nil ?_
            refine AWp.cond _ rfl (fun hc5 => ?_) (fun hc5 => ?_)
            · skip
              have hbit : bitT j m = 1 := by unfold bitT; simp only [decide_eq_true_eq] at hc5; omega
              refine AWp.region ?_
              refine AList.c 101 rfl rfl rfl (OpJ.move rfl rfl) ?_
              refine AList.c 102 rfl rfl rfl (OpJ.move rfl rfl) ?_
              refine AList.c 103 rfl rfl rfl (OpJ.indexRow rfl rfl rfl sl23 el23 (by omega)) ?_
              refine AList.c 104 rfl rfl rfl (OpJ.fieldAddr rfl rfl fd51_1 rfl) ?_
              refine AList.c 105 rfl rfl rfl (OpJ.fieldAddr rfl rfl fd25_1 rfl) ?_
              refine AList.c 106 rfl rfl rfl (OpJ.loadFlat (f := Tk.cells) (c := 3) (k := m) (j := 2) (xs := (sharpB b j m)) rfl rfl ty3 rfl rfl (by omega) (fun _ => rfl) (by rw [sharpB_length]; exact hk0) (Nat.le_of_ble_eq_true rfl) (show _ = PV.int .i64 (bAt b m).m.hi from by rw [sharpB_get hk0, if_neg (Nat.lt_irrefl _)]; rfl)) ?_
              refine AList.c 16 rfl rfl rfl (OpJ.assign rfl rfl) ?_
              refine AList.nil ?_
              refine AWp.region ?_
              refine AList.c 107 rfl rfl rfl (OpJ.move rfl rfl) ?_
              refine AList.c 108 rfl rfl rfl (OpJ.move rfl rfl) ?_
              refine AList.c 109 rfl rfl rfl (OpJ.move rfl rfl) ?_
              refine AList.c 110 rfl rfl rfl (OpJ.move rfl rfl) ?_
              refine AList.c 111 rfl rfl rfl (OpJ.callP (lspan_ok _ _) rfl rfl rfl rfl rf24) ?_
              refine AList.c 112 rfl rfl rfl (OpJ.indexRow rfl rfl rfl sl23 el23 (by omega)) ?_
              refine AList.c 113 rfl rfl rfl (OpJ.fieldAddr rfl rfl fd51_1 rfl) ?_
              refine AList.c0 rfl rfl (OpJ.storeRow (f := Tk.cells) (c := 3) (k := m) (j := 1) (xs := (sharpB b j m)) (z := (sharpT (bAt b m) (bitT j m))) (ws := [_, _]) rfl rfl rfl rfl rfl ty25 rfl rfl rfl (by omega) (fun _ => rfl) (by rw [sharpB_length]; exact hk0) (Nat.le_of_ble_eq_true rfl) (by rw [sharpB_get hk0, if_neg (Nat.lt_irrefl _)]; unfold sharpT; rw [if_pos hbit]; rfl)) ?_
              refine AList.nil ?_
              refine AWp.region ?_
              refine AList.c 88 rfl rfl rfl (OpJ.move rfl rfl) ?_
              refine AList.c 89 rfl rfl rfl (OpJ.add rfl rfl rfl (i64ok ?_)) ?_
              · omega
              refine AList.c 15 rfl rfl rfl (OpJ.assign rfl rfl) ?_
              refine AList.nil ?_
              refine ⟨m + 1, ?_, ?_, ?_⟩
              · omega
              · omega
              refine To.done [0, 1, 2, 3, 4] rfl (by repeat (first | exact Sub.nil | refine Sub.cons rfl ?_)) ?_
              show [_, _, _, Blk.cells (renL _ _) _, Blk.row (renL _ _) _] = _
              rw [renL_pure, renL_pure, sharpB_set hk0]
              rfl
            · skip
              have hbit : ¬ bitT j m = 1 := by unfold bitT; simp only [decide_eq_false_iff_not] at hc5; omega
              refine AWp.skip ?_
              refine AWp.region ?_
              refine AList.c 107 rfl rfl rfl (OpJ.move rfl rfl) ?_
              refine AList.c 108 rfl rfl rfl (OpJ.move rfl rfl) ?_
              refine AList.c 109 rfl rfl rfl (OpJ.move rfl rfl) ?_
              refine AList.c 110 rfl rfl rfl (OpJ.move rfl rfl) ?_
              refine AList.c 111 rfl rfl rfl (OpJ.callP (lspan_ok _ _) rfl rfl rfl rfl rf24) ?_
              refine AList.c 112 rfl rfl rfl (OpJ.indexRow rfl rfl rfl sl23 el23 (by omega)) ?_
              refine AList.c 113 rfl rfl rfl (OpJ.fieldAddr rfl rfl fd51_1 rfl) ?_
              refine AList.c0 rfl rfl (OpJ.storeRow (f := Tk.cells) (c := 3) (k := m) (j := 1) (xs := (sharpB b j m)) (z := (sharpT (bAt b m) (bitT j m))) (ws := [_, _]) rfl rfl rfl rfl rfl ty25 rfl rfl rfl (by omega) (fun _ => rfl) (by rw [sharpB_length]; exact hk0) (Nat.le_of_ble_eq_true rfl) (by rw [sharpB_get hk0, if_neg (Nat.lt_irrefl _)]; unfold sharpT; rw [if_neg hbit]; rfl)) ?_
              refine AList.nil ?_
              refine AWp.region ?_
              refine AList.c 88 rfl rfl rfl (OpJ.move rfl rfl) ?_
              refine AList.c 89 rfl rfl rfl (OpJ.add rfl rfl rfl (i64ok ?_)) ?_
              · omega
              refine AList.c 15 rfl rfl rfl (OpJ.assign rfl rfl) ?_
              refine AList.nil ?_
              refine ⟨m + 1, ?_, ?_, ?_⟩
              · omega
              · omega
              refine To.done [0, 1, 2, 3, 4] rfl (by repeat (first | exact Sub.nil | refine Sub.cons rfl ?_)) ?_
              show [_, _, _, Blk.cells (renL _ _) _, Blk.row (renL _ _) _] = _
              rw [renL_pure, renL_pure, sharpB_set hk0]
              rfl
          · skip
            obtain rfl : m = b.length := by simp at hc4; omega
            refine AWp.exit ?_
            refine AWp.seq ?_
            refine AWp.freeze 4 rfl (allP_map _) ?_
            refine AWp.norm [0, 1, 2, 3] [(0, .p (sacksV l)), (1, .p (takesV b)), (5, .ptr 0 0), (7, .ptr 1 0), (9, .ptr 2 0), (10, .ptr 3 0), (11, .p (.bool (fst0 (4 * i + j)))), (12, .p (.int .i64 (i : Int))), (13, .p (.int .i64 (j : Int))), (14, .p (.is ((sharpB b j b.length).flatMap Tk.cells) (0 + b.length)))] [.cells [.p (.int .i64 (wL l b 0)), .p (.int .i64 (wH l b 0)), .p (.int .i64 (wL l b 1)), .p (.int .i64 (wH l b 1)), .p (.int .i64 (wL l b 2)), .p (.int .i64 (wH l b 2)), .p (.int .i64 (wL l b 3)), .p (.int .i64 (wH l b 3)), .p (.int .i64 (wL l b 4)), .p (.int .i64 (wH l b 4))] 29, .cells [.p (.int .i64 (shL l b)), .p (.int .i64 (shH l b))] 25, .cells [.p (.int .i64 (wL l b 0)), .p (.int .i64 (wH l b 0)), .p (.int .i64 (wL l b 1)), .p (.int .i64 (wH l b 1)), .p (.int .i64 (wL l b 2)), .p (.int .i64 (wH l b 2)), .p (.int .i64 (wL l b 3)), .p (.int .i64 (wH l b 3)), .p (.int .i64 (wL l b 4)), .p (.int .i64 (wH l b 4)), .p (.int .i64 (shL l b)), .p (.int .i64 (shH l b))] 49, .cells (((bestL l b (4 * i + j) 0).flatMap Sp.cells).map .p) 49] rfl (by repeat (first | exact Sub.nil | refine Sub.cons rfl ?_)) (by show [_, _, _, Blk.cells (renL _ _) _] = _; rw [renL_pure]; rfl) ?_
            refine AWp.region ?_
            refine AList.c 115 rfl rfl rfl (OpJ.move rfl rfl) ?_
            refine AList.c 116 rfl rfl rfl (OpJ.move rfl rfl) ?_
            refine AList.c 117 rfl rfl rfl (OpJ.convInt rfl rfl (by rw [un3]; rfl) un54 (u32ok ?_)) ?_
            · omega
            refine AList.c 118 rfl rfl rfl (OpJ.callP (sharp_ok l i okl hi64) rfl rfl rfl rfl rf25) ?_
            refine AList.c 119 rfl rfl rfl (OpJ.move rfl rfl) ?_
            refine AList.c 120 rfl rfl rfl (OpJ.callP (weigh_t l b i j _ _ hj4 hl hb hv rfl (by omega)) rfl rfl rfl rfl rf11) ?_
            refine AList.c 114 rfl rfl rfl (OpJ.move rfl rfl) ?_
            refine AList.c 121 rfl rfl rfl (OpJ.extract rfl rfl rfl) ?_
            refine AList.c 122 rfl rfl rfl (OpJ.extract rfl rfl rfl) ?_
            refine AList.c 17 rfl rfl rfl (OpJ.allocOwn rfl zr29 rfl) ?_
            refine AList.c0 rfl rfl (OpJ.store rfl rfl rfl rfl rfl ty29 rfl rfl) ?_
            refine AList.c 18 rfl rfl rfl (OpJ.assign rfl rfl) ?_
            refine AList.nil ?_
            refine AWp.seq ?_
            refine AWp.region ?_
            refine AList.c 124 rfl rfl rfl (OpJ.move rfl rfl) ?_
            refine AList.c 125 rfl rfl rfl (OpJ.move rfl rfl) ?_
            refine AList.c 126 rfl rfl rfl (OpJ.convInt rfl rfl (by rw [un3]; rfl) un54 (u32ok ?_)) ?_
            · omega
            refine AList.c 127 rfl rfl rfl (OpJ.callP (sharp_ok l i okl hi64) rfl rfl rfl rfl rf25) ?_
            refine AList.c 128 rfl rfl rfl (OpJ.move rfl rfl) ?_
            refine AList.c 129 rfl rfl rfl (OpJ.callP (share_t l b i j _ _ hj4 hl hb hv rfl (by omega)) rfl rfl rfl rfl rf13) ?_
            refine AList.c 123 rfl rfl rfl (OpJ.move rfl rfl) ?_
            refine AList.c 130 rfl rfl rfl (OpJ.extract rfl rfl rfl) ?_
            refine AList.c 131 rfl rfl rfl (OpJ.extract rfl rfl rfl) ?_
            refine AList.c 19 rfl rfl rfl (OpJ.allocOwn rfl zr25 rfl) ?_
            refine AList.c0 rfl rfl (OpJ.store rfl rfl rfl rfl rfl ty25 rfl rfl) ?_
            refine AList.c 20 rfl rfl rfl (OpJ.assign rfl rfl) ?_
            refine AList.nil ?_
            refine AWp.seq ?_
            refine AWp.seq ?_
            refine AWp.region ?_
            refine AList.c 132 rfl rfl rfl (OpJ.move rfl rfl) ?_
            refine AList.c 133 rfl rfl rfl (OpJ.neq rfl rfl rfl) ?_
            refine AList.c 134 rfl rfl rfl (OpJ.move rfl rfl) ?_
            refine AList.g 135 134 rfl rfl rfl rfl rfl rfl rfl [(20, _)] (fun h => And.intro (.inl rfl) (trivial)) (fun h => (OpJ.move rfl rfl)) ?_
            refine AList.g 136 134 rfl rfl rfl rfl rfl rfl rfl [(135, _)] (fun h => And.intro (.inr ⟨_, rfl, h⟩) (trivial)) (fun h => (OpJ.neq rfl rfl rfl)) ?_
            refine AList.c 137 rfl rfl rfl (OpJ.or_ rfl rfl rfl ?_) ?_
            · first | (intro h; rw [h]; rfl) | (intro h; simp_all)
            refine AList.nil ?_
            refine AWp.cond _ rfl (fun hc6 => ?_) (fun hc6 => ?_)
            · skip
              exfalso
              simp at hc6
            · skip
              refine AWp.skip ?_
              refine AWp.seq ?_
              refine AWp.norm [0, 1, 2, 3, 4, 5] [(0, .p (sacksV l)), (1, .p (takesV b)), (5, .ptr 0 0), (7, .ptr 1 0), (9, .ptr 2 0), (10, .ptr 3 0), (11, .p (.bool (fst0 (4 * i + j)))), (12, .p (.int .i64 (i : Int))), (13, .p (.int .i64 (j : Int))), (17, .ptr 4 0), (19, .ptr 5 0)] [.cells [.p (.int .i64 (wL l b 0)), .p (.int .i64 (wH l b 0)), .p (.int .i64 (wL l b 1)), .p (.int .i64 (wH l b 1)), .p (.int .i64 (wL l b 2)), .p (.int .i64 (wH l b 2)), .p (.int .i64 (wL l b 3)), .p (.int .i64 (wH l b 3)), .p (.int .i64 (wL l b 4)), .p (.int .i64 (wH l b 4))] 29, .cells [.p (.int .i64 (shL l b)), .p (.int .i64 (shH l b))] 25, .cells [.p (.int .i64 (wL l b 0)), .p (.int .i64 (wH l b 0)), .p (.int .i64 (wL l b 1)), .p (.int .i64 (wH l b 1)), .p (.int .i64 (wL l b 2)), .p (.int .i64 (wH l b 2)), .p (.int .i64 (wL l b 3)), .p (.int .i64 (wH l b 3)), .p (.int .i64 (wL l b 4)), .p (.int .i64 (wH l b 4)), .p (.int .i64 (shL l b)), .p (.int .i64 (shH l b))] 49, .cells (((bestL l b (4 * i + j) 0).flatMap Sp.cells).map .p) 49, .cells [.p (.int .i64 (oL l b 0 (4 * i + j))), .p (.int .i64 (oH l b 0 (4 * i + j))), .p (.int .i64 (oL l b 1 (4 * i + j))), .p (.int .i64 (oH l b 1 (4 * i + j))), .p (.int .i64 (oL l b 2 (4 * i + j))), .p (.int .i64 (oH l b 2 (4 * i + j))), .p (.int .i64 (oL l b 3 (4 * i + j))), .p (.int .i64 (oH l b 3 (4 * i + j))), .p (.int .i64 (oL l b 4 (4 * i + j))), .p (.int .i64 (oH l b 4 (4 * i + j)))] 29, .cells [.p (.int .i64 (oL l b 5 (4 * i + j))), .p (.int .i64 (oH l b 5 (4 * i + j)))] 25] rfl (by repeat (first | exact Sub.nil | refine Sub.cons rfl ?_)) (by show [_, _, _, Blk.cells (renL _ _) _, _, _] = _; rw [renL_pure]; rfl) ?_
              refine AWp.region ?_
              refine AList.c 138 rfl rfl rfl (OpJ.fieldAddr rfl rfl fd29_0 rfl) ?_
              refine AList.c 139 rfl rfl rfl (OpJ.load rfl rfl ty25 rfl) ?_
              refine AList.c 140 rfl rfl rfl (OpJ.fieldAddr rfl rfl fd29_1 rfl) ?_
              refine AList.c 141 rfl rfl rfl (OpJ.load rfl rfl ty25 rfl) ?_
              refine AList.c 142 rfl rfl rfl (OpJ.fieldAddr rfl rfl fd29_2 rfl) ?_
              refine AList.c 143 rfl rfl rfl (OpJ.load rfl rfl ty25 rfl) ?_
              refine AList.c 144 rfl rfl rfl (OpJ.fieldAddr rfl rfl fd29_3 rfl) ?_
              refine AList.c 145 rfl rfl rfl (OpJ.load rfl rfl ty25 rfl) ?_
              refine AList.c 146 rfl rfl rfl (OpJ.fieldAddr rfl rfl fd29_4 rfl) ?_
              refine AList.c 147 rfl rfl rfl (OpJ.load rfl rfl ty25 rfl) ?_
              refine AList.c 148 rfl rfl rfl (OpJ.load rfl rfl ty25 rfl) ?_
              refine AList.c 149 rfl rfl rfl (OpJ.build rfl bd49 rfl rfl) ?_
              refine AList.c 21 rfl rfl rfl (OpJ.allocOwn rfl zr49 rfl) ?_
              refine AList.c0 rfl rfl (OpJ.store rfl rfl rfl rfl rfl ty49 rfl rfl) ?_
              refine AList.nil ?_
              refine AWp.seq ?_
              refine AWp.seq ?_
              refine AWp.norm [0, 1, 2, 3, 6] [(0, .p (sacksV l)), (1, .p (takesV b)), (5, .ptr 0 0), (7, .ptr 1 0), (9, .ptr 2 0), (10, .ptr 3 0), (11, .p (.bool (fst0 (4 * i + j)))), (12, .p (.int .i64 (i : Int))), (13, .p (.int .i64 (j : Int))), (21, .ptr 4 0)] [.cells [.p (.int .i64 (wL l b 0)), .p (.int .i64 (wH l b 0)), .p (.int .i64 (wL l b 1)), .p (.int .i64 (wH l b 1)), .p (.int .i64 (wL l b 2)), .p (.int .i64 (wH l b 2)), .p (.int .i64 (wL l b 3)), .p (.int .i64 (wH l b 3)), .p (.int .i64 (wL l b 4)), .p (.int .i64 (wH l b 4))] 29, .cells [.p (.int .i64 (shL l b)), .p (.int .i64 (shH l b))] 25, .cells [.p (.int .i64 (wL l b 0)), .p (.int .i64 (wH l b 0)), .p (.int .i64 (wL l b 1)), .p (.int .i64 (wH l b 1)), .p (.int .i64 (wL l b 2)), .p (.int .i64 (wH l b 2)), .p (.int .i64 (wL l b 3)), .p (.int .i64 (wH l b 3)), .p (.int .i64 (wL l b 4)), .p (.int .i64 (wH l b 4)), .p (.int .i64 (shL l b)), .p (.int .i64 (shH l b))] 49, .cells (((bestL l b (4 * i + j) 0).flatMap Sp.cells).map .p) 49, .cells (((ownL l b (4 * i + j)).flatMap Sp.cells).map .p) 49] rfl (by repeat (first | exact Sub.nil | refine Sub.cons rfl ?_)) (by show [_, _, _, Blk.cells (renL _ _) _, _] = _; rw [renL_pure, own_cellsE]; rfl) ?_
              refine AWp.region ?_
              refine AList.c 22 rfl rfl rfl (OpJ.assign rfl rfl) ?_
              refine AList.nil ?_
              refine AWp.block ?_
              refine AWp.loopH [4, 22, 150, 151, 152, 153, 154, 155, 156, 157, 158, 159, 160, 161, 162, 163, 164, 165, 166, 167, 168, 169, 170, 171, 172, 173, 174, 175, 176, 177, 178, 179, 180, 181, 182, 183, 184, 185, 186, 187, 188, 189, 190] (fun g => [(22, .p (.int .i64 ((g : Nat) : Int)))]) (fun g => [.cells [.p (.int .i64 (wL l b 0)), .p (.int .i64 (wH l b 0)), .p (.int .i64 (wL l b 1)), .p (.int .i64 (wH l b 1)), .p (.int .i64 (wL l b 2)), .p (.int .i64 (wH l b 2)), .p (.int .i64 (wL l b 3)), .p (.int .i64 (wH l b 3)), .p (.int .i64 (wL l b 4)), .p (.int .i64 (wH l b 4))] 29, .cells [.p (.int .i64 (shL l b)), .p (.int .i64 (shH l b))] 25, .cells [.p (.int .i64 (wL l b 0)), .p (.int .i64 (wH l b 0)), .p (.int .i64 (wL l b 1)), .p (.int .i64 (wH l b 1)), .p (.int .i64 (wL l b 2)), .p (.int .i64 (wH l b 2)), .p (.int .i64 (wL l b 3)), .p (.int .i64 (wH l b 3)), .p (.int .i64 (wL l b 4)), .p (.int .i64 (wH l b 4)), .p (.int .i64 (shL l b)), .p (.int .i64 (shH l b))] 49, .cells (((bestL l b (4 * i + j) g).flatMap Sp.cells).map .p) 49, .cells (((ownL l b (4 * i + j)).flatMap Sp.cells).map .p) 49]) (fun g => g ≤ 6) (fun g => 6 - g) 0 (by omega) (To.sub (Sub.chd (Sub.cons rfl Sub.nil))) (fun k hg => ?_)
              refine AWp.seq ?_
              refine AWp.seq ?_
              refine AWp.region ?_
              refine AList.c 150 rfl rfl rfl (OpJ.move rfl rfl) ?_
              refine AList.c 151 rfl rfl rfl (OpJ.lss rfl rfl rfl) ?_
              refine AList.nil ?_
              refine AWp.cond _ rfl (fun hc7 => ?_) (fun hc7 => ?_)
              · skip
                have hk6 : k < 6 := by simp at hc7; omega
                have hnr := six_near hv k (4 * i + j)
                have hob := oLB hv k (4 * i + j)
                refine AWp.skip ?_
                refine AWp.seq ?_
                refine AWp.block ?_
                refine AWp.seq ?_
                refine AWp.seq ?_
                refine AWp.region ?_
                refine AList.c 154 rfl rfl rfl (OpJ.move rfl rfl) ?_
                refine AList.nil ?_
                refine AWp.cond _ rfl (fun hc8 => ?_) (fun hc8 => ?_)
                · skip
                  refine AWp.region ?_
                  refine AList.c 155 rfl rfl rfl (OpJ.move rfl rfl) ?_
                  refine AList.c 156 rfl rfl rfl (OpJ.move rfl rfl) ?_
                  refine AList.c 157 rfl rfl rfl (OpJ.indexArrI rfl rfl rfl ar49 el49 hk6) ?_
                  refine AList.c 158 rfl rfl rfl (OpJ.loadFlat (f := Sp.cells) (c := 2) (k := k) (j := 0) (xs := (ownL l b (4 * i + j))) rfl rfl ty25 rfl rfl (by omega) (fun _ => rfl) (by rw [ownL_length]; exact hk6) (Nat.le_of_ble_eq_true rfl) (show _ = PV.agg [.int .i64 (oL l b k (4 * i + j)), .int .i64 (oH l b k (4 * i + j))] from by rw [ownL_get]; rfl)) ?_
                  refine AList.c 159 rfl rfl rfl (OpJ.indexArrI rfl rfl rfl ar49 el49 hk6) ?_
                  refine AList.c0 rfl rfl (OpJ.storeCells (f := Sp.cells) (c := 2) (k := k) (j := 0) (xs := (bestL l b (4 * i + j) k)) (z := ⟨oL l b k (4 * i + j), oH l b k (4 * i + j)⟩) (ws := [_, _]) rfl rfl rfl rfl rfl ty25 rfl rfl rfl (by omega) (fun _ => rfl) (by rw [bestL_length]; exact hk6) (Nat.le_of_ble_eq_true rfl) (by rw [bestL_get]; rfl)) ?_
                  refine AList.nil ?_
                  refine AWp.seq ?_
                  refine AWp.seq ?_
                  refine AWp.regionDraw 10 mixed (by kernel_rfl) (by decide) ?_
                  refine AQuiet.cons 160 rfl rfl rfl (OpJ.move rfl rfl) ?_
                  refine AQuiet.cons 161 rfl rfl rfl (OpJ.indexArrI rfl rfl rfl ar49 el49 hk6) ?_
                  refine AQuiet.cons 162 rfl rfl rfl (OpJ.fieldAddr rfl rfl fd25_1 rfl) ?_
                  refine AQuiet.cons 163 rfl rfl rfl (OpJ.loadFlat (f := Sp.cells) (c := 2) (k := k) (j := 1) (xs := (ownL l b (4 * i + j))) rfl rfl ty3 rfl rfl (by omega) (fun _ => rfl) (by rw [ownL_length]; exact hk6) (Nat.le_of_ble_eq_true rfl) (show _ = PV.int .i64 (oH l b k (4 * i + j)) from by rw [ownL_get]; rfl)) ?_
                  refine AQuiet.cons 164 rfl rfl rfl (OpJ.move rfl rfl) ?_
                  refine AQuiet.cons 165 rfl rfl rfl (OpJ.indexArrI rfl rfl rfl ar49 el49 hk6) ?_
                  refine AQuiet.cons 166 rfl rfl rfl (OpJ.fieldAddr rfl rfl fd25_0 rfl) ?_
                  refine AQuiet.cons 167 rfl rfl rfl (OpJ.loadFlat (f := Sp.cells) (c := 2) (k := k) (j := 0) (xs := (ownL l b (4 * i + j))) rfl rfl ty3 rfl rfl (by omega) (fun _ => rfl) (by rw [ownL_length]; exact hk6) (Nat.le_of_ble_eq_true rfl) (show _ = PV.int .i64 (oL l b k (4 * i + j)) from by rw [ownL_get]; rfl)) ?_
                  refine AQuiet.cons 168 rfl rfl rfl (OpJ.add rfl rfl rfl (i64ok ?_)) ?_
                  · omega
                  refine AQuiet.cons 169 rfl rfl rfl (OpJ.gtr rfl rfl rfl) ?_
                  refine AQuiet.nil ?_
                  refine AList.nil ?_
                  refine AWp.cond _ rfl (fun hc9 => ?_) (fun hc9 => ?_)
                  · skip
                    exfalso
                    simp at hc9
                    omega
                  · skip
                    refine AWp.skip ?_
                    refine AWp.regionDraw 21 mixed (by kernel_rfl) (by decide) ?_
                    refine AQuiet.cons 170 rfl rfl rfl (OpJ.move rfl rfl) ?_
                    refine AQuiet.cons 171 rfl rfl rfl (OpJ.move rfl rfl) ?_
                    refine AQuiet.cons 172 rfl rfl rfl (OpJ.indexArrI rfl rfl rfl ar49 el49 hk6) ?_
                    refine AQuiet.cons 173 rfl rfl rfl (OpJ.fieldAddr rfl rfl fd25_0 rfl) ?_
                    refine AQuiet.cons 174 rfl rfl rfl (OpJ.loadFlat (f := Sp.cells) (c := 2) (k := k) (j := 0) (xs := ((bestL l b (4 * i + j) k).set k ⟨oL l b k (4 * i + j), oH l b k (4 * i + j)⟩)) rfl rfl ty3 rfl rfl (by omega) (fun _ => rfl) (by rw [List.length_set, bestL_length]; exact hk6) (Nat.le_of_ble_eq_true rfl) (show _ = PV.int .i64 (oL l b k (4 * i + j)) from by rw [List.getElem_set_self]; rfl)) ?_
                    refine AQuiet.cons 175 rfl rfl rfl (OpJ.move rfl rfl) ?_
                    refine AQuiet.cons 176 rfl rfl rfl (OpJ.indexArrI rfl rfl rfl ar49 el49 hk6) ?_
                    refine AQuiet.cons 177 rfl rfl rfl (OpJ.fieldAddr rfl rfl fd25_0 rfl) ?_
                    refine AQuiet.cons 178 rfl rfl rfl (OpJ.loadFlat (f := Sp.cells) (c := 2) (k := k) (j := 0) (xs := (ownL l b (4 * i + j))) rfl rfl ty3 rfl rfl (by omega) (fun _ => rfl) (by rw [ownL_length]; exact hk6) (Nat.le_of_ble_eq_true rfl) (show _ = PV.int .i64 (oL l b k (4 * i + j)) from by rw [ownL_get]; rfl)) ?_
                    refine AQuiet.cons 179 rfl rfl rfl (OpJ.min2 rfl rfl rfl) ?_
                    refine AQuiet.cons 180 rfl rfl rfl (OpJ.move rfl rfl) ?_
                    refine AQuiet.cons 181 rfl rfl rfl (OpJ.indexArrI rfl rfl rfl ar49 el49 hk6) ?_
                    refine AQuiet.cons 182 rfl rfl rfl (OpJ.fieldAddr rfl rfl fd25_1 rfl) ?_
                    refine AQuiet.cons 183 rfl rfl rfl (OpJ.loadFlat (f := Sp.cells) (c := 2) (k := k) (j := 1) (xs := ((bestL l b (4 * i + j) k).set k ⟨oL l b k (4 * i + j), oH l b k (4 * i + j)⟩)) rfl rfl ty3 rfl rfl (by omega) (fun _ => rfl) (by rw [List.length_set, bestL_length]; exact hk6) (Nat.le_of_ble_eq_true rfl) (show _ = PV.int .i64 (oH l b k (4 * i + j)) from by rw [List.getElem_set_self]; rfl)) ?_
                    refine AQuiet.cons 184 rfl rfl rfl (OpJ.move rfl rfl) ?_
                    refine AQuiet.cons 185 rfl rfl rfl (OpJ.indexArrI rfl rfl rfl ar49 el49 hk6) ?_
                    refine AQuiet.cons 186 rfl rfl rfl (OpJ.fieldAddr rfl rfl fd25_1 rfl) ?_
                    refine AQuiet.cons 187 rfl rfl rfl (OpJ.loadFlat (f := Sp.cells) (c := 2) (k := k) (j := 1) (xs := (ownL l b (4 * i + j))) rfl rfl ty3 rfl rfl (by omega) (fun _ => rfl) (by rw [ownL_length]; exact hk6) (Nat.le_of_ble_eq_true rfl) (show _ = PV.int .i64 (oH l b k (4 * i + j)) from by rw [ownL_get]; rfl)) ?_
                    refine AQuiet.cons 188 rfl rfl rfl (OpJ.max2 rfl rfl rfl) ?_
                    refine AQuiet.cons 189 rfl rfl rfl (OpJ.callP (lspan_ok _ _) rfl rfl rfl rfl rf24) ?_
                    refine AQuiet.cons 190 rfl rfl rfl (OpJ.indexArrI rfl rfl rfl ar49 el49 hk6) ?_
                    refine AQuiet.nil ?_
                    refine AList.c0 rfl rfl (OpJ.storeCells (f := Sp.cells) (c := 2) (k := k) (j := 0) (xs := ((bestL l b (4 * i + j) k).set k ⟨oL l b k (4 * i + j), oH l b k (4 * i + j)⟩)) (z := ⟨min (oL l b k (4 * i + j)) (oL l b k (4 * i + j)), max (oH l b k (4 * i + j)) (oH l b k (4 * i + j))⟩) (ws := [_, _]) rfl rfl rfl rfl rfl ty25 rfl rfl rfl (by omega) (fun _ => rfl) (by rw [List.length_set, bestL_length]; exact hk6) (Nat.le_of_ble_eq_true rfl) (by rw [List.getElem_set_self]; rfl)) ?_
                    refine AList.nil ?_
                    refine AWp.region ?_
                    refine AList.c 152 rfl rfl rfl (OpJ.move rfl rfl) ?_
                    refine AList.c 153 rfl rfl rfl (OpJ.add rfl rfl rfl (i64ok ?_)) ?_
                    · omega
                    refine AList.c 22 rfl rfl rfl (OpJ.assign rfl rfl) ?_
                    refine AList.nil ?_
                    refine ⟨k + 1, ?_, ?_, ?_⟩
                    · omega
                    · omega
                    refine To.done [0, 1, 2, 3, 4] rfl (by repeat (first | exact Sub.nil | refine Sub.cons rfl ?_)) ?_
                    show [_, _, _, Blk.cells (renL _ _) _, Blk.cells (renL _ _) _] = _
                    rw [renL_pure, renL_pure, best_first hc8, bestL_set2]
                    rfl
                · skip
                  refine AWp.skip ?_
                  refine AWp.seq ?_
                  refine AWp.seq ?_
                  refine AWp.regionDraw 10 mixed (by kernel_rfl) (by decide) ?_
                  refine AQuiet.cons 160 rfl rfl rfl (OpJ.move rfl rfl) ?_
                  refine AQuiet.cons 161 rfl rfl rfl (OpJ.indexArrI rfl rfl rfl ar49 el49 hk6) ?_
                  refine AQuiet.cons 162 rfl rfl rfl (OpJ.fieldAddr rfl rfl fd25_1 rfl) ?_
                  refine AQuiet.cons 163 rfl rfl rfl (OpJ.loadFlat (f := Sp.cells) (c := 2) (k := k) (j := 1) (xs := (ownL l b (4 * i + j))) rfl rfl ty3 rfl rfl (by omega) (fun _ => rfl) (by rw [ownL_length]; exact hk6) (Nat.le_of_ble_eq_true rfl) (show _ = PV.int .i64 (oH l b k (4 * i + j)) from by rw [ownL_get]; rfl)) ?_
                  refine AQuiet.cons 164 rfl rfl rfl (OpJ.move rfl rfl) ?_
                  refine AQuiet.cons 165 rfl rfl rfl (OpJ.indexArrI rfl rfl rfl ar49 el49 hk6) ?_
                  refine AQuiet.cons 166 rfl rfl rfl (OpJ.fieldAddr rfl rfl fd25_0 rfl) ?_
                  refine AQuiet.cons 167 rfl rfl rfl (OpJ.loadFlat (f := Sp.cells) (c := 2) (k := k) (j := 0) (xs := (ownL l b (4 * i + j))) rfl rfl ty3 rfl rfl (by omega) (fun _ => rfl) (by rw [ownL_length]; exact hk6) (Nat.le_of_ble_eq_true rfl) (show _ = PV.int .i64 (oL l b k (4 * i + j)) from by rw [ownL_get]; rfl)) ?_
                  refine AQuiet.cons 168 rfl rfl rfl (OpJ.add rfl rfl rfl (i64ok ?_)) ?_
                  · omega
                  refine AQuiet.cons 169 rfl rfl rfl (OpJ.gtr rfl rfl rfl) ?_
                  refine AQuiet.nil ?_
                  refine AList.nil ?_
                  refine AWp.cond _ rfl (fun hc9 => ?_) (fun hc9 => ?_)
                  · skip
                    exfalso
                    simp at hc9
                    omega
                  · skip
                    refine AWp.skip ?_
                    refine AWp.regionDraw 21 mixed (by kernel_rfl) (by decide) ?_
                    refine AQuiet.cons 170 rfl rfl rfl (OpJ.move rfl rfl) ?_
                    refine AQuiet.cons 171 rfl rfl rfl (OpJ.move rfl rfl) ?_
                    refine AQuiet.cons 172 rfl rfl rfl (OpJ.indexArrI rfl rfl rfl ar49 el49 hk6) ?_
                    refine AQuiet.cons 173 rfl rfl rfl (OpJ.fieldAddr rfl rfl fd25_0 rfl) ?_
                    refine AQuiet.cons 174 rfl rfl rfl (OpJ.loadFlat (f := Sp.cells) (c := 2) (k := k) (j := 0) (xs := (bestL l b (4 * i + j) k)) rfl rfl ty3 rfl rfl (by omega) (fun _ => rfl) (by rw [bestL_length]; exact hk6) (Nat.le_of_ble_eq_true rfl) (show _ = PV.int .i64 (mnF (oL l b k) (4 * i + j)) from by rw [bestL_get]; rfl)) ?_
                    refine AQuiet.cons 175 rfl rfl rfl (OpJ.move rfl rfl) ?_
                    refine AQuiet.cons 176 rfl rfl rfl (OpJ.indexArrI rfl rfl rfl ar49 el49 hk6) ?_
                    refine AQuiet.cons 177 rfl rfl rfl (OpJ.fieldAddr rfl rfl fd25_0 rfl) ?_
                    refine AQuiet.cons 178 rfl rfl rfl (OpJ.loadFlat (f := Sp.cells) (c := 2) (k := k) (j := 0) (xs := (ownL l b (4 * i + j))) rfl rfl ty3 rfl rfl (by omega) (fun _ => rfl) (by rw [ownL_length]; exact hk6) (Nat.le_of_ble_eq_true rfl) (show _ = PV.int .i64 (oL l b k (4 * i + j)) from by rw [ownL_get]; rfl)) ?_
                    refine AQuiet.cons 179 rfl rfl rfl (OpJ.min2 rfl rfl rfl) ?_
                    refine AQuiet.cons 180 rfl rfl rfl (OpJ.move rfl rfl) ?_
                    refine AQuiet.cons 181 rfl rfl rfl (OpJ.indexArrI rfl rfl rfl ar49 el49 hk6) ?_
                    refine AQuiet.cons 182 rfl rfl rfl (OpJ.fieldAddr rfl rfl fd25_1 rfl) ?_
                    refine AQuiet.cons 183 rfl rfl rfl (OpJ.loadFlat (f := Sp.cells) (c := 2) (k := k) (j := 1) (xs := (bestL l b (4 * i + j) k)) rfl rfl ty3 rfl rfl (by omega) (fun _ => rfl) (by rw [bestL_length]; exact hk6) (Nat.le_of_ble_eq_true rfl) (show _ = PV.int .i64 (mxF (oH l b k) (4 * i + j)) from by rw [bestL_get]; rfl)) ?_
                    refine AQuiet.cons 184 rfl rfl rfl (OpJ.move rfl rfl) ?_
                    refine AQuiet.cons 185 rfl rfl rfl (OpJ.indexArrI rfl rfl rfl ar49 el49 hk6) ?_
                    refine AQuiet.cons 186 rfl rfl rfl (OpJ.fieldAddr rfl rfl fd25_1 rfl) ?_
                    refine AQuiet.cons 187 rfl rfl rfl (OpJ.loadFlat (f := Sp.cells) (c := 2) (k := k) (j := 1) (xs := (ownL l b (4 * i + j))) rfl rfl ty3 rfl rfl (by omega) (fun _ => rfl) (by rw [ownL_length]; exact hk6) (Nat.le_of_ble_eq_true rfl) (show _ = PV.int .i64 (oH l b k (4 * i + j)) from by rw [ownL_get]; rfl)) ?_
                    refine AQuiet.cons 188 rfl rfl rfl (OpJ.max2 rfl rfl rfl) ?_
                    refine AQuiet.cons 189 rfl rfl rfl (OpJ.callP (lspan_ok _ _) rfl rfl rfl rfl rf24) ?_
                    refine AQuiet.cons 190 rfl rfl rfl (OpJ.indexArrI rfl rfl rfl ar49 el49 hk6) ?_
                    refine AQuiet.nil ?_
                    refine AList.c0 rfl rfl (OpJ.storeCells (f := Sp.cells) (c := 2) (k := k) (j := 0) (xs := (bestL l b (4 * i + j) k)) (z := ⟨min (mnF (oL l b k) (4 * i + j)) (oL l b k (4 * i + j)), max (mxF (oH l b k) (4 * i + j)) (oH l b k (4 * i + j))⟩) (ws := [_, _]) rfl rfl rfl rfl rfl ty25 rfl rfl rfl (by omega) (fun _ => rfl) (by rw [bestL_length]; exact hk6) (Nat.le_of_ble_eq_true rfl) (by rw [bestL_get]; rfl)) ?_
                    refine AList.nil ?_
                    refine AWp.region ?_
                    refine AList.c 152 rfl rfl rfl (OpJ.move rfl rfl) ?_
                    refine AList.c 153 rfl rfl rfl (OpJ.add rfl rfl rfl (i64ok ?_)) ?_
                    · omega
                    refine AList.c 22 rfl rfl rfl (OpJ.assign rfl rfl) ?_
                    refine AList.nil ?_
                    refine ⟨k + 1, ?_, ?_, ?_⟩
                    · omega
                    · omega
                    refine To.done [0, 1, 2, 3, 4] rfl (by repeat (first | exact Sub.nil | refine Sub.cons rfl ?_)) ?_
                    show [_, _, _, Blk.cells (renL _ _) _, Blk.cells (renL _ _) _] = _
                    rw [renL_pure, renL_pure, best_next hc8, bestL_set]
                    rfl
              · skip
                obtain rfl : k = 6 := by simp at hc7; omega
                refine AWp.exit ?_
                refine AWp.region ?_
                refine AList.c 11 rfl rfl rfl (OpJ.assign rfl rfl) ?_
                refine AList.nil ?_
                refine AWp.region ?_
                refine AList.c 79 rfl rfl rfl (OpJ.move rfl rfl) ?_
                refine AList.c 80 rfl rfl rfl (OpJ.add rfl rfl rfl (i64ok ?_)) ?_
                · omega
                refine AList.c 13 rfl rfl rfl (OpJ.assign rfl rfl) ?_
                refine AList.nil ?_
                refine ⟨j + 1, ?_, ?_, ?_⟩
                · omega
                · omega
                refine To.done [0, 1, 2, 3] rfl (by repeat (first | exact Sub.nil | refine Sub.cons rfl ?_)) (by show [_, _, _, Blk.cells (renL _ _) _] = _; rw [renL_pure, bestL_six]; rfl)
        · skip
          obtain rfl : j = 4 := by simp at hc3; omega
          refine AWp.exit ?_
          refine AWp.region ?_
          refine AList.c 75 rfl rfl rfl (OpJ.move rfl rfl) ?_
          refine AList.c 76 rfl rfl rfl (OpJ.add rfl rfl rfl (i64ok ?_)) ?_
          · omega
          refine AList.c 12 rfl rfl rfl (OpJ.assign rfl rfl) ?_
          refine AList.nil ?_
          refine ⟨i + 1, ?_, ?_, ?_⟩
          · omega
          · omega
          refine To.done [0, 1, 2, 3] rfl (by repeat (first | exact Sub.nil | refine Sub.cons rfl ?_)) (by show [_, _, _, Blk.cells (renL _ _) _] = _; rw [renL_pure]; rfl)
      · skip
        obtain rfl : i = 64 := by simp at hc2; omega
        refine AWp.exit ?_
        refine AWp.seq ?_
        refine AWp.norm [0, 1, 2, 3] [(0, .p (sacksV l)), (1, .p (takesV b)), (5, .ptr 0 0), (7, .ptr 1 0), (9, .ptr 2 0), (10, .ptr 3 0)] [.cells [.p (.int .i64 (wL l b 0)), .p (.int .i64 (wH l b 0)), .p (.int .i64 (wL l b 1)), .p (.int .i64 (wH l b 1)), .p (.int .i64 (wL l b 2)), .p (.int .i64 (wH l b 2)), .p (.int .i64 (wL l b 3)), .p (.int .i64 (wH l b 3)), .p (.int .i64 (wL l b 4)), .p (.int .i64 (wH l b 4))] 29, .cells [.p (.int .i64 (shL l b)), .p (.int .i64 (shH l b))] 25, .cells [.p (.int .i64 (wL l b 0)), .p (.int .i64 (wH l b 0)), .p (.int .i64 (wL l b 1)), .p (.int .i64 (wH l b 1)), .p (.int .i64 (wL l b 2)), .p (.int .i64 (wH l b 2)), .p (.int .i64 (wL l b 3)), .p (.int .i64 (wH l b 3)), .p (.int .i64 (wL l b 4)), .p (.int .i64 (wH l b 4)), .p (.int .i64 (shL l b)), .p (.int .i64 (shH l b))] 49, .cells [.p (.int .i64 (mnF (oL l b 0) 256)), .p (.int .i64 (mxF (oH l b 0) 256)), .p (.int .i64 (mnF (oL l b 1) 256)), .p (.int .i64 (mxF (oH l b 1) 256)), .p (.int .i64 (mnF (oL l b 2) 256)), .p (.int .i64 (mxF (oH l b 2) 256)), .p (.int .i64 (mnF (oL l b 3) 256)), .p (.int .i64 (mxF (oH l b 3) 256)), .p (.int .i64 (mnF (oL l b 4) 256)), .p (.int .i64 (mxF (oH l b 4) 256)), .p (.int .i64 (mnF (oL l b 5) 256)), .p (.int .i64 (mxF (oH l b 5) 256))] 49] rfl (by repeat (first | exact Sub.nil | refine Sub.cons rfl ?_)) (by show [_, _, _, Blk.cells (renL _ _) _] = _; rw [renL_pure, best_cells]; rfl) ?_
        refine AWp.region ?_
        refine AList.c 191 rfl rfl rfl (OpJ.load rfl rfl ty49 rfl) ?_
        refine AList.c 192 rfl rfl rfl (OpJ.load rfl rfl ty49 rfl) ?_
        refine AList.c 193 rfl rfl rfl (OpJ.eqAgg (d := 8) rfl (.inl rfl) rfl rfl (by decide) eq49 ty49 rfl eg49 rfl) ?_
        refine AList.c 194 rfl rfl rfl (OpJ.move rfl rfl) ?_
        refine AList.g 195 194 rfl rfl rfl rfl rfl rfl rfl [] (fun h => trivial) (fun h => (OpJ.callP (awake_ok) rfl rfl rfl rfl rf10)) ?_
        refine AList.c 196 rfl rfl rfl (OpJ.and_ rfl rfl rfl ?_) ?_
        · first | (intro h; rw [h]; rfl) | (intro h; simp_all)
        refine AList.c 4 rfl rfl rfl (OpJ.assign rfl rfl) ?_
        refine AList.nil ?_
        refine AWp.ret ?_
        refine Fin.oneE rfl rfl ?_
        have q0 : mnF (oL l b 0) 256 = wL l b 0 := best_lo hv hl2 hb2 0
        have q1 : mnF (oL l b 1) 256 = wL l b 1 := best_lo hv hl2 hb2 1
        have q2 : mnF (oL l b 2) 256 = wL l b 2 := best_lo hv hl2 hb2 2
        have q3 : mnF (oL l b 3) 256 = wL l b 3 := best_lo hv hl2 hb2 3
        have q4 : mnF (oL l b 4) 256 = wL l b 4 := best_lo hv hl2 hb2 4
        have q5 : mnF (oL l b 5) 256 = shL l b := best_lo hv hl2 hb2 5
        have u0 : mxF (oH l b 0) 256 = wH l b 0 := best_hi hv hl2 hb2 0
        have u1 : mxF (oH l b 1) 256 = wH l b 1 := best_hi hv hl2 hb2 1
        have u2 : mxF (oH l b 2) 256 = wH l b 2 := best_hi hv hl2 hb2 2
        have u3 : mxF (oH l b 3) 256 = wH l b 3 := best_hi hv hl2 hb2 3
        have u4 : mxF (oH l b 4) 256 = wH l b 4 := best_hi hv hl2 hb2 4
        have u5 : mxF (oH l b 5) 256 = shH l b := best_hi hv hl2 hb2 5
        simp [q0, q1, q2, q3, q4, q5, u0, u1, u2, u3, u4, u5]
theorem sackEnds_law {x0 x1 : List PV} (h0 : TyL [.sl [.leaf (.int .i64), .leaf (.int .i64), .leaf (.int .i64), .leaf (.int .i64), .leaf (.int .i64), .leaf (.int .i64)]] x0) (h1 : TyL [.sl [.leaf (.int .i64), .leaf (.int .i64), .leaf (.int .i64)]] x1) : Pure Try.prog 6 [argP false x0, argP false x1] (.bool true) := by
  obtain ⟨l, rfl, hl⟩ := sl_of (fun _ => sk_of) h0
  obtain ⟨b, rfl, hb⟩ := sl_of (fun _ => tk_of) h1
  exact SackEnds_ok l b hl hb
end Go.Proofs.Ytmcejcidbekpkaa
