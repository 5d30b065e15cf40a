/-
  The law SackOrder.
-/
import Derived.Test.YtmcejcidbekpkaaSkFactsD
import Derived.Test.YtmcejcidbekpkaaSk21
import Derived.Test.YtmcejcidbekpkaaSkO
set_option linter.unusedVariables false
set_option maxRecDepth 100000
set_option maxHeartbeats 4000000
set_option linter.unusedSimpArgs false
namespace Go.Proofs.Ytmcejcidbekpkaa
open Go.AF
def le1 (s : Sk) (yb : Nat) : Sk := ⟨⟨min s.w.hi (s.w.lo + ((yb % 9 : Nat) : Int)), s.w.hi⟩, s.c, s.l⟩
def le2 (s : Sk) (yb : Nat) : Sk := ⟨s.w, ⟨s.c.lo, max s.c.lo (s.c.hi - ((yb % 7 : Nat) : Int))⟩, s.l⟩
def le3 (s : Sk) (yb : Nat) : Sk := ⟨s.w, s.c, ⟨min s.l.hi (s.l.lo + ((yb % 5 : Nat) : Int)), s.l.hi⟩⟩
theorem le_less {l : List Sk} (hA : areSacksB l = true) {k : Nat} (hk : k < l.length) (yb : Nat) : Less l (((l.set k (le1 l[k] yb)).set k (le2 (le1 l[k] yb) yb)).set k (le3 (le2 (le1 l[k] yb) yb) yb)) := by
  rw [List.set_set, List.set_set]
  have hs := (okL_of hA).2 l[k] (List.getElem_mem _)
  unfold okSk at hs
  refine less_of hA hk ?_ ?_
  · unfold narrow le3 le2 le1; dsimp only; omega
  · unfold le3 le2 le1; dsimp only; omega
theorem flat_take {α : Type} {f : α → List PV} {c : Nat} (hf : ∀ x, (f x).length = c) : ∀ (xs : List α) (k : Nat), (xs.flatMap f).take (k * c) = (xs.take k).flatMap f
  | [], k => by simp
  | x :: xs, 0 => by simp
  | x :: xs, k + 1 => by
    have e : (k + 1) * c = (f x).length + k * c := by rw [hf, Nat.add_mul]; omega
    rw [List.take_succ_cons, List.flatMap_cons, List.flatMap_cons, e, List.take_length_add_append, flat_take hf xs k]
theorem flat_drop {α : Type} {f : α → List PV} {c : Nat} (hf : ∀ x, (f x).length = c) : ∀ (xs : List α) (k : Nat), (xs.flatMap f).drop (k * c) = (xs.drop k).flatMap f
  | [], k => by simp
  | x :: xs, 0 => by simp
  | x :: xs, k + 1 => by
    have e : (k + 1) * c = (f x).length + k * c := by rw [hf, Nat.add_mul]; omega
    rw [List.drop_succ_cons, List.flatMap_cons, e, List.drop_length_add_append, flat_drop hf xs k]
theorem skOne (l : List Sk) : (((l.flatMap Sk.cells).map V.p).all oneV) = true := by
  simp only [List.all_map, List.all_flatMap, List.all_eq_true]
  intro s _ x hx
  simp [Sk.cells] at hx
  rcases hx with h | h | h | h | h | h <;> subst h <;> rfl
theorem weigh_x (l : List Sk) (b : List Tk) (n : Nat) (hl : l.length ≤ bigN) (hb : b.length ≤ bigN) (hn : b.length = n) : Pure Try.prog 11 [sacksV l, .is (b.flatMap Tk.cells) n] (.tuple [.agg [.int .i64 (wL l b 0), .int .i64 (wH l b 0), .int .i64 (wL l b 1), .int .i64 (wH l b 1), .int .i64 (wL l b 2), .int .i64 (wH l b 2), .int .i64 (wL l b 3), .int .i64 (wH l b 3), .int .i64 (wL l b 4), .int .i64 (wH l b 4)], .int .i64 (okE l b)]) := by
  subst hn; exact weigh_n l b hl hb
theorem share_x (l : List Sk) (b : List Tk) (n : Nat) (hl : l.length ≤ bigN) (hb : b.length ≤ bigN) (hn : b.length = n) : Pure Try.prog 13 [sacksV l, .is (b.flatMap Tk.cells) n] (.tuple [.agg [.int .i64 (shL l b), .int .i64 (shH l b)], .int .i64 (okE l b)]) := by
  subst hn; exact share_n l b hl hb
theorem water_x (l : List Sk) (b : List Tk) (n : Nat) (w : Sp) (hl : l.length ≤ bigN) (hb : b.length ≤ bigN) (hn : b.length = n) : Pure Try.prog 15 [sacksV l, .is (b.flatMap Tk.cells) n, .agg [.int .i64 w.lo, .int .i64 w.hi]] (.tuple [.agg [.int .i64 (waL l b w), .int .i64 (waH l b w)], .int .i64 (waE l b w)]) := by
  subst hn; exact water_n l b w hl hb
theorem weigh_y (l : List Sk) (b : List Tk) (n : Nat) (hl : l.length ≤ bigN) (hb : b.length ≤ bigN) (hn : l.length = n) : Pure Try.prog 11 [.is (l.flatMap Sk.cells) n, takesV b] (.tuple [.agg [.int .i64 (wL l b 0), .int .i64 (wH l b 0), .int .i64 (wL l b 1), .int .i64 (wH l b 1), .int .i64 (wL l b 2), .int .i64 (wH l b 2), .int .i64 (wL l b 3), .int .i64 (wH l b 3), .int .i64 (wL l b 4), .int .i64 (wH l b 4)], .int .i64 (okE l b)]) := by
  subst hn; exact weigh_n l b hl hb
theorem share_y (l : List Sk) (b : List Tk) (n : Nat) (hl : l.length ≤ bigN) (hb : b.length ≤ bigN) (hn : l.length = n) : Pure Try.prog 13 [.is (l.flatMap Sk.cells) n, takesV b] (.tuple [.agg [.int .i64 (shL l b), .int .i64 (shH l b)], .int .i64 (okE l b)]) := by
  subst hn; exact share_n l b hl hb
theorem water_y (l : List Sk) (b : List Tk) (n : Nat) (w : Sp) (hl : l.length ≤ bigN) (hb : b.length ≤ bigN) (hn : l.length = n) : Pure Try.prog 15 [.is (l.flatMap Sk.cells) n, takesV b, .agg [.int .i64 w.lo, .int .i64 w.hi]] (.tuple [.agg [.int .i64 (waL l b w), .int .i64 (waH l b w)], .int .i64 (waE l b w)]) := by
  subst hn; exact water_n l b w hl hb
theorem order1_ok (a b c d : Int) : Pure Try.prog 27 [.agg [.int .i64 a, .int .i64 b], .agg [.int .i64 c, .int .i64 d]] (.bool (decide (c ≤ a) && decide (b ≤ d))) := by
  refine Pure.start (N := 17) Try.func27 rfl rfl (Nat.le_of_ble_eq_true rfl) ?_
  refine AWp.seq ?_
  refine AWp.region ?_
  refine AList.c 2 rfl rfl rfl (OpJ.boxImm rfl rfl rfl) ?_
  refine AList.c 3 rfl rfl rfl (OpJ.boxImm rfl rfl rfl) ?_
  refine AList.c 4 rfl rfl rfl (OpJ.assign rfl rfl) ?_
  refine AList.nil ?_
  refine AWp.seq ?_
  refine AWp.region ?_
  refine AList.c 5 rfl rfl rfl (OpJ.fieldAddr rfl rfl fd25_0 rfl) ?_
  refine AList.c 6 rfl rfl rfl (OpJ.load rfl rfl ty3 rfl) ?_
  refine AList.c 7 rfl rfl rfl (OpJ.fieldAddr rfl rfl fd25_0 rfl) ?_
  refine AList.c 8 rfl rfl rfl (OpJ.load rfl rfl ty3 rfl) ?_
  refine AList.c 9 rfl rfl rfl (OpJ.geq rfl rfl rfl) ?_
  refine AList.c 10 rfl rfl rfl (OpJ.move rfl rfl) ?_
  refine AList.g 11 10 rfl rfl rfl rfl rfl rfl rfl [(2, _)] (fun h => And.intro (.inl rfl) (trivial)) (fun h => (OpJ.fieldAddr rfl rfl fd25_1 rfl)) ?_
  refine AList.g 12 10 rfl rfl rfl rfl rfl rfl rfl [(11, _)] (fun h => And.intro (.inr ⟨_, rfl, h⟩) (trivial)) (fun h => (OpJ.load rfl rfl ty3 rfl)) ?_
  refine AList.g 13 10 rfl rfl rfl rfl rfl rfl rfl [(3, _)] (fun h => And.intro (.inl rfl) (trivial)) (fun h => (OpJ.fieldAddr rfl rfl fd25_1 rfl)) ?_
  refine AList.g 14 10 rfl rfl rfl rfl rfl rfl rfl [(13, _)] (fun h => And.intro (.inr ⟨_, rfl, h⟩) (trivial)) (fun h => (OpJ.load rfl rfl ty3 rfl)) ?_
  refine AList.g 15 10 rfl rfl rfl rfl rfl rfl rfl [(12, _), (14, _)] (fun h => And.intro (.inr ⟨_, rfl, h⟩) (And.intro (.inr ⟨_, rfl, h⟩) (trivial))) (fun h => (OpJ.leq rfl rfl rfl)) ?_
  refine AList.c 16 rfl rfl rfl (OpJ.and_ rfl rfl rfl ?_) ?_
  · first | (intro h; rw [h]; rfl) | (intro h; simp_all)
  refine AList.c 4 rfl rfl rfl (OpJ.assign rfl rfl) ?_
  refine AList.nil ?_
  refine AWp.ret ?_
  exact Fin.one rfl (rfl)
theorem order1_F (a b c d : Int) : FPure Try.prog (.func (.func 27) [] []) [.agg [.int .i64 a, .int .i64 b], .agg [.int .i64 c, .int .i64 d]] (.bool (decide (c ≤ a) && decide (b ≤ d))) := ⟨27, [.agg [.int .i64 a, .int .i64 b], .agg [.int .i64 c, .int .i64 d]], rfl, rf27, order1_ok a b c d⟩
theorem SackOrder_ok (l : List Sk) (b : List Tk) (w : Sp) (tu yb : Nat) (htu : tu ≤ 255) (hyb : yb ≤ 255) (hl : l.length ≤ bigN) (hb : b.length ≤ bigN) : Pure Try.prog 7 [sacksV l, takesV b, .agg [.int .i64 w.lo, .int .i64 w.hi], .int .u8 (tu : Int), .int .u8 (yb : Int)] (.bool true) := by
  refine Pure.start (N := 437) Try.func7 rfl rfl (Nat.le_of_ble_eq_true rfl) ?_
  refine AWp.seq ?_
  refine AWp.region ?_
  refine AList.c 7 rfl rfl rfl (OpJ.boxImm rfl rfl rfl) ?_
  refine AList.c 10 rfl rfl rfl (OpJ.assign rfl rfl) ?_
  refine AList.nil ?_
  refine AWp.seq ?_
  refine AWp.seq ?_
  refine AWp.region ?_
  refine AList.c 44 rfl rfl rfl (OpJ.move rfl rfl) ?_
  refine AList.c 45 rfl rfl rfl (OpJ.callP (large0_ok l) rfl rfl rfl rfl rf9) ?_
  refine AList.c 46 rfl rfl rfl (OpJ.move rfl rfl) ?_
  refine AList.g 47 46 rfl rfl rfl rfl rfl rfl rfl [(1, _)] (fun h => And.intro (.inl rfl) (trivial)) (fun h => (OpJ.move rfl rfl)) ?_
  refine AList.g 48 46 rfl rfl rfl rfl rfl rfl rfl [(47, _)] (fun h => And.intro (.inr ⟨_, rfl, h⟩) (trivial)) (fun h => (OpJ.lenSlice rfl rfl sl23 rfl)) ?_
  refine AList.g 49 46 rfl rfl rfl rfl rfl rfl rfl [(48, _)] (fun h => And.intro (.inr ⟨_, rfl, h⟩) (trivial)) (fun h => (OpJ.gtr rfl rfl rfl)) ?_
  refine AList.c 50 rfl rfl rfl (OpJ.or_ rfl rfl rfl ?_) ?_
  · first | (intro h; rw [h]; rfl) | (intro h; simp_all)
  refine AList.c 51 rfl rfl rfl (OpJ.move rfl rfl) ?_
  refine AList.g 52 51 rfl rfl rfl rfl rfl rfl rfl [(0, _)] (fun h => And.intro (.inl rfl) (trivial)) (fun h => (OpJ.move rfl rfl)) ?_
  refine AList.g 53 51 rfl rfl rfl rfl rfl rfl rfl [(52, _)] (fun h => And.intro (.inr ⟨_, rfl, h⟩) (trivial)) (fun h => (OpJ.callP (rSacks_ok l hl) rfl rfl rfl rfl rf19)) ?_
  refine AList.g 54 51 rfl rfl rfl rfl rfl rfl rfl [(53, _)] (fun h => And.intro (.inr ⟨_, rfl, h⟩) (trivial)) (fun h => (OpJ.not_ rfl rfl)) ?_
  refine AList.c 55 rfl rfl rfl (OpJ.or_ rfl rfl rfl ?_) ?_
  · first | (intro h; rw [h]; rfl) | (intro h; simp_all)
  refine AList.c 56 rfl rfl rfl (OpJ.move rfl rfl) ?_
  refine AList.g 57 56 rfl rfl rfl rfl rfl rfl rfl [(0, _)] (fun h => And.intro (.inl rfl) (trivial)) (fun h => (OpJ.move rfl rfl)) ?_
  refine AList.g 58 56 rfl rfl rfl rfl rfl rfl rfl [(1, _)] (fun h => And.intro (.inl rfl) (trivial)) (fun h => (OpJ.move rfl rfl)) ?_
  refine AList.g 59 56 rfl rfl rfl rfl rfl rfl rfl [(57, _), (58, _)] (fun h => And.intro (.inr ⟨_, rfl, h⟩) (And.intro (.inr ⟨_, rfl, h⟩) (trivial))) (fun h => (OpJ.callP (rBatch_ok l b hl hb) rfl rfl rfl rfl rf20)) ?_
  refine AList.g 60 56 rfl rfl rfl rfl rfl rfl rfl [(59, _)] (fun h => And.intro (.inr ⟨_, rfl, h⟩) (trivial)) (fun h => (OpJ.not_ rfl rfl)) ?_
  refine AList.c 61 rfl rfl rfl (OpJ.or_ rfl rfl rfl ?_) ?_
  · first | (intro h; rw [h]; rfl) | (intro h; simp_all)
  refine AList.nil ?_
  refine AWp.cond _ rfl (fun hc0 => ?_) (fun hc0 => ?_)
  · skip
    refine AWp.seq ?_
    refine AWp.region ?_
    refine AList.c 62 rfl rfl rfl (OpJ.callP (awake_ok) rfl rfl rfl rfl rf10) ?_
    refine AList.c 10 rfl rfl rfl (OpJ.assign rfl rfl) ?_
    refine AList.nil ?_
    refine AWp.ret ?_
    refine Fin.oneE rfl rfl ?_
    rfl
  · skip
    have hv : validB l b = true := by unfold validB; simp at hc0; simp [hc0]
    have okl : okL l := okL_of (by unfold validB at hv; simp at hv; exact hv.1)
    have okb := okB_of (n := l.length) (b := b) (by unfold validB at hv; simp at hv; exact hv.2)
    obtain ⟨hA, hb18, hbt⟩ := valid_iff.1 hv
    have hb0 : 0 < b.length := by omega
    have hl8 := okl.1
    have hl0 : 0 < l.length := by have := hbt b[0] (List.getElem_mem _); omega
    have hok : okE l b = 0 := by simp [okE, hv]
    refine AWp.skip ?_
    refine AWp.seq ?_
    refine AWp.region ?_
    refine AList.c 64 rfl rfl rfl (OpJ.move rfl rfl) ?_
    refine AList.c 65 rfl rfl rfl (OpJ.move rfl rfl) ?_
    refine AList.c 66 rfl rfl rfl (OpJ.callP (weigh_n l b hl hb) rfl rfl rfl rfl rf11) ?_
    refine AList.c 63 rfl rfl rfl (OpJ.move rfl rfl) ?_
    refine AList.c 67 rfl rfl rfl (OpJ.extract rfl rfl rfl) ?_
    refine AList.c 68 rfl rfl rfl (OpJ.extract rfl rfl rfl) ?_
    refine AList.c 11 rfl rfl rfl (OpJ.allocOwn rfl zr29 rfl) ?_
    refine AList.c0 rfl rfl (OpJ.store rfl rfl rfl rfl rfl ty29 rfl rfl) ?_
    refine AList.c 12 rfl rfl rfl (OpJ.assign rfl rfl) ?_
    refine AList.nil ?_
    refine AWp.seq ?_
    refine AWp.region ?_
    refine AList.c 70 rfl rfl rfl (OpJ.move rfl rfl) ?_
    refine AList.c 71 rfl rfl rfl (OpJ.move rfl rfl) ?_
    refine AList.c 72 rfl rfl rfl (OpJ.callP (share_n l b hl hb) rfl rfl rfl rfl rf13) ?_
    refine AList.c 69 rfl rfl rfl (OpJ.move rfl rfl) ?_
    refine AList.c 73 rfl rfl rfl (OpJ.extract rfl rfl rfl) ?_
    refine AList.c 74 rfl rfl rfl (OpJ.extract rfl rfl rfl) ?_
    refine AList.c 13 rfl rfl rfl (OpJ.allocOwn rfl zr25 rfl) ?_
    refine AList.c0 rfl rfl (OpJ.store rfl rfl rfl rfl rfl ty25 rfl rfl) ?_
    refine AList.c 14 rfl rfl rfl (OpJ.assign rfl rfl) ?_
    refine AList.nil ?_
    refine AWp.seq ?_
    refine AWp.region ?_
    refine AList.c 76 rfl rfl rfl (OpJ.move rfl rfl) ?_
    refine AList.c 77 rfl rfl rfl (OpJ.move rfl rfl) ?_
    refine AList.c 78 rfl rfl rfl (OpJ.load rfl rfl ty25 rfl) ?_
    refine AList.c 79 rfl rfl rfl (OpJ.callP (water_n l b w hl hb) rfl rfl rfl rfl rf15) ?_
    refine AList.c 75 rfl rfl rfl (OpJ.move rfl rfl) ?_
    refine AList.c 80 rfl rfl rfl (OpJ.extract rfl rfl rfl) ?_
    refine AList.c 81 rfl rfl rfl (OpJ.extract rfl rfl rfl) ?_
    refine AList.c 15 rfl rfl rfl (OpJ.allocOwn rfl zr25 rfl) ?_
    refine AList.c0 rfl rfl (OpJ.store rfl rfl rfl rfl rfl ty25 rfl rfl) ?_
    refine AList.c 16 rfl rfl rfl (OpJ.assign rfl rfl) ?_
    refine AList.nil ?_
    refine AWp.seq ?_
    refine AWp.region ?_
    refine AList.c 17 rfl rfl rfl (OpJ.assign rfl rfl) ?_
    refine AList.c 18 rfl rfl rfl (OpJ.assign rfl rfl) ?_
    refine AList.nil ?_
    refine AWp.seq ?_
    refine AWp.seq ?_
    refine AWp.region ?_
    refine AList.c 19 rfl rfl rfl (OpJ.assign rfl rfl) ?_
    refine AList.nil ?_
    refine AWp.block ?_
    refine AWp.loopH [17, 19, 82, 83, 84, 85, 86, 87, 88, 89, 90, 91, 92, 93, 94, 95, 96, 97, 98, 99, 100] (fun g => [(19, .p (.int .i64 ((g : Nat) : Int))), (17, accV 3 g)]) (fun g => [.cells [.p (.int .i64 (wL l b 0)), .p (.int .i64 (wH l b 0)), .p (.int .i64 (wL l b 1)), .p (.int .i64 (wH l b 1)), .p (.int .i64 (wL l b 2)), .p (.int .i64 (wH l b 2)), .p (.int .i64 (wL l b 3)), .p (.int .i64 (wH l b 3)), .p (.int .i64 (wL l b 4)), .p (.int .i64 (wH l b 4))] 29, .cells [.p (.int .i64 (shL l b)), .p (.int .i64 (shH l b))] 25, .cells [.p (.int .i64 (waL l b w)), .p (.int .i64 (waH l b w))] 25, accB (((turnL b tu g).flatMap Tk.cells).map .p) 51 g]) (fun g => g ≤ b.length) (fun g => b.length - g) 0 (by omega) (To.pad.trans (To.sub (Sub.chd (Sub.cons rfl (Sub.cons rfl Sub.nil))))) (fun i hg => ?_)
    refine AWp.seq ?_
    refine AWp.seq ?_
    refine AWp.region ?_
    refine AList.c 82 rfl rfl rfl (OpJ.move rfl rfl) ?_
    refine AList.c 83 rfl rfl rfl (OpJ.move rfl rfl) ?_
    refine AList.c 84 rfl rfl rfl (OpJ.lenSlice rfl rfl sl23 rfl) ?_
    refine AList.c 85 rfl rfl rfl (OpJ.lss rfl rfl rfl) ?_
    refine AList.nil ?_
    refine AWp.cond _ rfl (fun hc1 => ?_) (fun hc1 => ?_)
    · skip
      have hk0 : i < b.length := by simp at hc1; omega
      refine AWp.skip ?_
      refine AWp.seq ?_
      refine AWp.block ?_
      refine AWp.region ?_
      refine AList.c 88 rfl rfl rfl (OpJ.move rfl rfl) ?_
      refine AList.c 89 rfl rfl rfl (OpJ.move rfl rfl) ?_
      refine AList.c 90 rfl rfl rfl (OpJ.move rfl rfl) ?_
      refine AList.c 91 rfl rfl rfl (OpJ.move rfl rfl) ?_
      refine AList.c 92 rfl rfl rfl (OpJ.convInt rfl rfl (by rw [un5]; rfl) un3 (i64ok ?_)) ?_
      · omega
      refine AList.c 93 rfl rfl rfl (OpJ.add (m := ((i + tu : Nat) : Int)) rfl rfl rfl ((i64ok ?_).trans ?_)) ?_
      · omega
      · omega
      refine AList.c 94 rfl rfl rfl (OpJ.move rfl rfl) ?_
      refine AList.c 95 rfl rfl rfl (OpJ.lenSlice rfl rfl sl23 rfl) ?_
      refine AList.c 96 rfl rfl rfl (OpJ.rem (m := (((i + tu) % b.length : Nat) : Int)) rfl rfl rfl ?_ ?_) ?_
      · omega
      · exact tmodN _ _
      refine AList.c 97 rfl rfl rfl (OpJ.indexEl rfl rfl rfl sl23 el23 rfl (fun _ => rfl) (by decide) (Nat.mod_lt _ hb0)) ?_
      refine AList.c 98 rfl rfl rfl (OpJ.load rfl rfl ty51 rfl) ?_
      refine AList.c 99 rfl rfl rfl (OpJ.buildImm rfl slz23 (by decide) rfl rfl rfl) ?_
      refine AList.c 100 rfl rfl rfl (OpJ.appendAcc rfl rfl rfl slz23 sl23 rfl ?_ rfl (by decide) rfl by51 (by decide) ?_) ?_
      · rw [List.length_map, flat_len (c := 3) (fun _ => rfl), turnL_length]; rfl
      · omega
      refine AList.c 17 rfl rfl rfl (OpJ.assign rfl rfl) ?_
      refine AList.nil ?_
      refine AWp.region ?_
      refine AList.c 86 rfl rfl rfl (OpJ.move rfl rfl) ?_
      refine AList.c 87 rfl rfl rfl (OpJ.add rfl rfl rfl (i64ok ?_)) ?_
      · omega
      refine AList.c 19 rfl rfl rfl (OpJ.assign rfl rfl) ?_
      refine AList.nil ?_
      refine ⟨i + 1, ?_, ?_, ?_⟩
      · omega
      · omega
      refine To.done [0, 1, 2, 4] rfl (by repeat (first | exact Sub.nil | refine Sub.cons rfl ?_)) ?_
      show [_, _, _, Blk.row (renL _ (_ ++ _)) _] = [_, _, _, Blk.row _ _]
      rw [renL_app, renL_pure, turnL_succ, List.flatMap_append, List.map_append, bAt_get (Nat.mod_lt (i + tu) hb0)]
      rfl
    · skip
      obtain rfl : i = b.length := by simp at hc1; omega
      refine AWp.to (To.accD 17 3 b.length rfl rfl (fun h => by rw [h]; rfl)) ?_
      refine AWp.exit ?_
      refine AWp.join (fun (os : List Tk) => [(0, .p (sacksV l)), (1, .p (takesV b)), (3, .p (.int .u8 (tu : Int))), (4, .p (.int .u8 (yb : Int))), (7, .p (.ip [.int .i64 w.lo, .int .i64 w.hi] 0)), (11, .ptr 0 0), (12, .p (.int .i64 (okE l b))), (13, .ptr 1 0), (14, .p (.int .i64 (okE l b))), (15, .ptr 2 0), (16, .p (.int .i64 (waE l b w))), (17, .p (.is ((turnL b tu b.length).flatMap Tk.cells) b.length)), (18, .p (.is (os.flatMap Tk.cells) os.length))]) (fun (os : List Tk) => [.cells [.p (.int .i64 (wL l b 0)), .p (.int .i64 (wH l b 0)), .p (.int .i64 (wL l b 1)), .p (.int .i64 (wH l b 1)), .p (.int .i64 (wL l b 2)), .p (.int .i64 (wH l b 2)), .p (.int .i64 (wL l b 3)), .p (.int .i64 (wH l b 3)), .p (.int .i64 (wL l b 4)), .p (.int .i64 (wH l b 4))] 29, .cells [.p (.int .i64 (shL l b)), .p (.int .i64 (shH l b))] 25, .cells [.p (.int .i64 (waL l b w)), .p (.int .i64 (waH l b w))] 25]) (fun (os : List Tk) => os = [] ∨ (os = onesL b l.length ∧ ∀ i, i < l.length → 0 < wLo b i → wHi b i ≤ 100000)) ?_ (fun os hos => ?_)
      · skip
        refine AWp.seq ?_
        refine AWp.region ?_
        refine AList.c 20 rfl rfl rfl (OpJ.assign rfl rfl) ?_
        refine AList.nil ?_
        refine AWp.block ?_
        refine AWp.loopH [18, 20, 21, 101, 102, 103, 104, 105, 106, 107, 108, 109, 110, 111, 112, 113, 114, 115, 116, 117, 118, 119, 120, 121, 122, 123, 124, 125, 126] (fun g => [(20, .p (.int .i64 ((g : Nat) : Int))), (18, accV 3 (onesL b g).length)]) (fun g => [.cells [.p (.int .i64 (wL l b 0)), .p (.int .i64 (wH l b 0)), .p (.int .i64 (wL l b 1)), .p (.int .i64 (wH l b 1)), .p (.int .i64 (wL l b 2)), .p (.int .i64 (wH l b 2)), .p (.int .i64 (wL l b 3)), .p (.int .i64 (wH l b 3)), .p (.int .i64 (wL l b 4)), .p (.int .i64 (wH l b 4))] 29, .cells [.p (.int .i64 (shL l b)), .p (.int .i64 (shH l b))] 25, .cells [.p (.int .i64 (waL l b w)), .p (.int .i64 (waH l b w))] 25, accB (((onesL b g).flatMap Tk.cells).map .p) 51 (onesL b g).length]) (fun g => g ≤ l.length ∧ ∀ i, i < g → 0 < wLo b i → wHi b i ≤ 100000) (fun g => l.length - g) 0 ⟨by omega, fun i h => by omega⟩ (To.sub (Sub.chd (Sub.cons rfl (Sub.cons rfl Sub.nil)))) (fun i hg => ?_)
        obtain ⟨hg1, hg2⟩ := hg
        have olen := onesL_len b i
        refine AWp.seq ?_
        refine AWp.seq ?_
        refine AWp.region ?_
        refine AList.c 101 rfl rfl rfl (OpJ.move rfl rfl) ?_
        refine AList.c 102 rfl rfl rfl (OpJ.move rfl rfl) ?_
        refine AList.c 103 rfl rfl rfl (OpJ.lenSlice rfl rfl sl22 rfl) ?_
        refine AList.c 104 rfl rfl rfl (OpJ.lss rfl rfl rfl) ?_
        refine AList.nil ?_
        refine AWp.cond _ rfl (fun hc2 => ?_) (fun hc2 => ?_)
        · skip
          have hk0 : i < l.length := by simp at hc2; omega
          refine AWp.skip ?_
          refine AWp.seq ?_
          refine AWp.block ?_
          refine AWp.seq ?_
          refine AWp.region ?_
          refine AList.c 107 rfl rfl rfl (OpJ.move rfl rfl) ?_
          refine AList.c 108 rfl rfl rfl (OpJ.move rfl rfl) ?_
          refine AList.c 109 rfl rfl rfl (OpJ.callP (rWeight_ok b (i : Int) okb.1) rfl rfl rfl rfl rf26) ?_
          refine AList.c 21 rfl rfl rfl (OpJ.allocOwn rfl zr25 rfl) ?_
          refine AList.c0 rfl rfl (OpJ.store rfl rfl rfl rfl rfl ty25 rfl rfl) ?_
          refine AList.nil ?_
          refine AWp.seq ?_
          refine AWp.region ?_
          refine AList.c 110 rfl rfl rfl (OpJ.fieldAddr rfl rfl fd25_0 rfl) ?_
          refine AList.c 111 rfl rfl rfl (OpJ.load rfl rfl ty3 rfl) ?_
          refine AList.c 112 rfl rfl rfl (OpJ.gtr rfl rfl rfl) ?_
          refine AList.c 113 rfl rfl rfl (OpJ.move rfl rfl) ?_
          refine AList.g 114 113 rfl rfl rfl rfl rfl rfl rfl [(21, _)] (fun h => And.intro (.inl rfl) (trivial)) (fun h => (OpJ.fieldAddr rfl rfl fd25_1 rfl)) ?_
          refine AList.g 115 113 rfl rfl rfl rfl rfl rfl rfl [(114, _)] (fun h => And.intro (.inr ⟨_, rfl, h⟩) (trivial)) (fun h => (OpJ.load rfl rfl ty3 rfl)) ?_
          refine AList.g 116 113 rfl rfl rfl rfl rfl rfl rfl [(115, _)] (fun h => And.intro (.inr ⟨_, rfl, h⟩) (trivial)) (fun h => (OpJ.leq rfl rfl rfl)) ?_
          refine AList.c 117 rfl rfl rfl (OpJ.and_ rfl rfl rfl ?_) ?_
          · first | (intro h; rw [h]; rfl) | (intro h; simp_all)
          refine AList.nil ?_
          refine AWp.cond _ rfl (fun hc3 => ?_) (fun hc3 => ?_)
          · skip
            have hw3 : 0 < wLo b i ∧ wHi b i ≤ 100000 := by simpa [wLo, wHi] using hc3
            refine AWp.region ?_
            refine AList.c 118 rfl rfl rfl (OpJ.move rfl rfl) ?_
            refine AList.c 119 rfl rfl rfl (OpJ.move rfl rfl) ?_
            refine AList.c 120 rfl rfl rfl (OpJ.load rfl rfl ty25 rfl) ?_
            refine AList.c 121 rfl rfl rfl (OpJ.build rfl bd51 rfl rfl) ?_
            refine AList.c 122 rfl rfl rfl (OpJ.buildImm rfl slz23 (by decide) rfl rfl rfl) ?_
            refine AList.c 123 rfl rfl rfl (OpJ.appendAcc rfl rfl rfl slz23 sl23 rfl ?_ rfl (by decide) rfl by51 (by decide) ?_) ?_
            · rw [List.length_map, flat_len (c := 3) (fun _ => rfl)]; rfl
            · omega
            refine AList.c 18 rfl rfl rfl (OpJ.assign rfl rfl) ?_
            refine AList.nil ?_
            refine AWp.region ?_
            refine AList.c 105 rfl rfl rfl (OpJ.move rfl rfl) ?_
            refine AList.c 106 rfl rfl rfl (OpJ.add rfl rfl rfl (i64ok ?_)) ?_
            · omega
            refine AList.c 20 rfl rfl rfl (OpJ.assign rfl rfl) ?_
            refine AList.nil ?_
            refine ⟨i + 1, ?_, ?_, ?_⟩
            · refine ⟨by omega, fun j hj hj2 => ?_⟩
              rcases Nat.lt_succ_iff_lt_or_eq.1 hj with h | rfl
              · exact hg2 j h hj2
              · exact hw3.2
            · omega
            have eo : onesL b (i + 1) = onesL b i ++ [⟨(i : Int), ⟨wLo b i, wHi b i⟩⟩] := by simp only [onesL]; rw [if_pos hw3.1]
            rw [eo, List.length_append]
            refine To.done [0, 1, 2, 5] rfl (by repeat (first | exact Sub.nil | refine Sub.cons rfl ?_)) ?_
            show [_, _, _, Blk.row (renL _ (_ ++ _)) _] = [_, _, _, Blk.row _ _]
            rw [renL_app, renL_pure, List.flatMap_append, List.map_append]
            rfl
          · skip
            refine AWp.seq ?_
            refine AWp.region ?_
            refine AList.c 124 rfl rfl rfl (OpJ.fieldAddr rfl rfl fd25_0 rfl) ?_
            refine AList.c 125 rfl rfl rfl (OpJ.load rfl rfl ty3 rfl) ?_
            refine AList.c 126 rfl rfl rfl (OpJ.gtr rfl rfl rfl) ?_
            refine AList.nil ?_
            refine AWp.cond _ rfl (fun hc4 => ?_) (fun hc4 => ?_)
            · skip
              refine AWp.seq ?_
              refine AWp.region ?_
              refine AList.c 18 rfl rfl rfl (OpJ.assign rfl rfl) ?_
              refine AList.nil ?_
              refine AWp.to (To.nilIs 18 rfl) ?_
              refine AWp.exit ?_
              exact ⟨[], .inl rfl, To.done [0, 1, 2] rfl (by repeat (first | exact Sub.nil | refine Sub.cons rfl ?_)) rfl⟩
            · skip
              have hw4 : ¬ 0 < wLo b i := by simpa [wLo] using hc4
              refine AWp.skip ?_
              refine AWp.region ?_
              refine AList.c 105 rfl rfl rfl (OpJ.move rfl rfl) ?_
              refine AList.c 106 rfl rfl rfl (OpJ.add rfl rfl rfl (i64ok ?_)) ?_
              · omega
              refine AList.c 20 rfl rfl rfl (OpJ.assign rfl rfl) ?_
              refine AList.nil ?_
              refine ⟨i + 1, ?_, ?_, ?_⟩
              · refine ⟨by omega, fun j hj hj2 => ?_⟩
                rcases Nat.lt_succ_iff_lt_or_eq.1 hj with h | rfl
                · exact hg2 j h hj2
                · exact absurd hj2 hw4
              · omega
              have eo : onesL b (i + 1) = onesL b i := by simp only [onesL]; rw [if_neg hw4]
              rw [eo]
              refine To.done [0, 1, 2, 3] rfl (Sub.cons rfl (Sub.cons (by show some (renV _ (accV 3 _)) = some _; rw [renV_acc (σ := pl [0, 1, 2, 3]) (j := 3) rfl]) (by repeat (first | exact Sub.nil | refine Sub.cons rfl ?_)))) (by show [_, _, _, renB _ (accB _ _ _)] = _; rw [renB_accB]; rfl)
        · skip
          obtain rfl : i = l.length := by simp at hc2; omega
          have hm := hg2
          refine AWp.to (To.accD 18 3 (onesL b l.length).length rfl rfl (fun h => by rw [List.length_eq_zero_iff.1 h]; rfl)) ?_
          refine AWp.exit ?_
          exact ⟨onesL b l.length, .inr ⟨rfl, hm⟩, To.done [0, 1, 2] rfl (by repeat (first | exact Sub.nil | refine Sub.cons rfl ?_)) rfl⟩
      · skip
        refine AWp.seq ?_
        refine AWp.seq ?_
        refine AWp.region ?_
        refine AList.c 22 rfl rfl rfl (OpJ.assign rfl rfl) ?_
        refine AList.nil ?_
        refine AWp.block ?_
        refine AWp.loopH [10, 22, 23, 24, 25, 26, 27, 28, 29, 127, 128, 129, 130, 131, 132, 133, 134, 135, 136, 137, 138, 139, 140, 141, 142, 143, 144, 145, 146, 147, 148, 149, 150, 151, 152, 153, 154, 155, 156, 157, 158, 159, 160, 161, 162, 163, 164, 165, 166, 167, 168, 169, 170, 171, 172, 173, 174, 175, 176, 177, 178, 179, 180, 181, 182, 183, 184] (fun g => [(22, .p (.int .i64 ((g : Nat) : Int)))]) (fun g => [.cells [.p (.int .i64 (wL l b 0)), .p (.int .i64 (wH l b 0)), .p (.int .i64 (wL l b 1)), .p (.int .i64 (wH l b 1)), .p (.int .i64 (wL l b 2)), .p (.int .i64 (wH l b 2)), .p (.int .i64 (wL l b 3)), .p (.int .i64 (wH l b 3)), .p (.int .i64 (wL l b 4)), .p (.int .i64 (wH l b 4))] 29, .cells [.p (.int .i64 (shL l b)), .p (.int .i64 (shH l b))] 25, .cells [.p (.int .i64 (waL l b w)), .p (.int .i64 (waH l b w))] 25]) (fun g => g ≤ 2) (fun g => 2 - g) 0 (by omega) (To.sub (Sub.chd (Sub.cons rfl Sub.nil))) (fun i hg => ?_)
        refine AWp.seq ?_
        refine AWp.seq ?_
        refine AWp.region ?_
        refine AList.c 127 rfl rfl rfl (OpJ.move rfl rfl) ?_
        refine AList.c 128 rfl rfl rfl (OpJ.lss rfl rfl rfl) ?_
        refine AList.nil ?_
        refine AWp.cond _ rfl (fun hc5 => ?_) (fun hc5 => ?_)
        · skip
          have hi2 : i < 2 := by simp at hc5; omega
          refine AWp.skip ?_
          refine AWp.seq ?_
          refine AWp.block ?_
          refine AWp.seq ?_
          refine AWp.region ?_
          refine AList.c 131 rfl rfl rfl (OpJ.move rfl rfl) ?_
          refine AList.c 23 rfl rfl rfl (OpJ.assign rfl rfl) ?_
          refine AList.nil ?_
          refine AWp.seq ?_
          refine AWp.seq ?_
          refine AWp.region ?_
          refine AList.c 132 rfl rfl rfl (OpJ.move rfl rfl) ?_
          refine AList.c 133 rfl rfl rfl (OpJ.eql rfl rfl rfl) ?_
          refine AList.nil ?_
          refine AWp.cond _ rfl (fun hc6 => ?_) (fun hc6 => ?_)
          · skip
            refine AWp.region ?_
            refine AList.c 134 rfl rfl rfl (OpJ.move rfl rfl) ?_
            refine AList.c 23 rfl rfl rfl (OpJ.assign rfl rfl) ?_
            refine AList.nil ?_
            refine AWp.seq ?_
            refine AWp.seq ?_
            refine AWp.region ?_
            refine AList.c 135 rfl rfl rfl (OpJ.move rfl rfl) ?_
            refine AList.c 136 rfl rfl rfl (OpJ.lenSlice rfl rfl sl23 rfl) ?_
            refine AList.c 137 rfl rfl rfl (OpJ.eql rfl rfl rfl) ?_
            refine AList.nil ?_
            refine AWp.cond _ rfl (fun hc7 => ?_) (fun hc7 => ?_)
            · skip
              refine AWp.exit ?_
              refine AWp.region ?_
              refine AList.c 129 rfl rfl rfl (OpJ.move rfl rfl) ?_
              refine AList.c 130 rfl rfl rfl (OpJ.add rfl rfl rfl (i64ok ?_)) ?_
              · omega
              refine AList.c 22 rfl rfl rfl (OpJ.assign rfl rfl) ?_
              refine AList.nil ?_
              refine ⟨i + 1, ?_, ?_, ?_⟩
              · omega
              · omega
              exact To.done [0, 1, 2] rfl (by repeat (first | exact Sub.nil | refine Sub.cons rfl ?_)) rfl
            · skip
              have hS : SameW l b os := by
                rcases hos with h | ⟨h, hm⟩
                · subst h; simp at hc7
                · subst h; exact ones_same hv hm (fun h => by rw [h] at hc7; simp at hc7)
              have hx8 : os.length ≤ bigN := by
                rcases hos with h | ⟨h, hm⟩
                · subst h; unfold bigN; simp
                · subst h; unfold bigN; have := onesL_len b l.length; omega
              refine AWp.skip ?_
              refine AWp.seq ?_
              refine AWp.region ?_
              refine AList.c 139 rfl rfl rfl (OpJ.move rfl rfl) ?_
              refine AList.c 140 rfl rfl rfl (OpJ.move rfl rfl) ?_
              refine AList.c 141 rfl rfl rfl (OpJ.callP (weigh_x l os os.length hl hx8 rfl) rfl rfl rfl rfl rf11) ?_
              refine AList.c 138 rfl rfl rfl (OpJ.move rfl rfl) ?_
              refine AList.c 142 rfl rfl rfl (OpJ.extract rfl rfl rfl) ?_
              refine AList.c 143 rfl rfl rfl (OpJ.extract rfl rfl rfl) ?_
              refine AList.c 24 rfl rfl rfl (OpJ.allocOwn rfl zr29 rfl) ?_
              refine AList.c0 rfl rfl (OpJ.store rfl rfl rfl rfl rfl ty29 rfl rfl) ?_
              refine AList.c 25 rfl rfl rfl (OpJ.assign rfl rfl) ?_
              refine AList.nil ?_
              refine AWp.seq ?_
              refine AWp.region ?_
              refine AList.c 145 rfl rfl rfl (OpJ.move rfl rfl) ?_
              refine AList.c 146 rfl rfl rfl (OpJ.move rfl rfl) ?_
              refine AList.c 147 rfl rfl rfl (OpJ.callP (share_x l os os.length hl hx8 rfl) rfl rfl rfl rfl rf13) ?_
              refine AList.c 144 rfl rfl rfl (OpJ.move rfl rfl) ?_
              refine AList.c 148 rfl rfl rfl (OpJ.extract rfl rfl rfl) ?_
              refine AList.c 149 rfl rfl rfl (OpJ.extract rfl rfl rfl) ?_
              refine AList.c 26 rfl rfl rfl (OpJ.allocOwn rfl zr25 rfl) ?_
              refine AList.c0 rfl rfl (OpJ.store rfl rfl rfl rfl rfl ty25 rfl rfl) ?_
              refine AList.c 27 rfl rfl rfl (OpJ.assign rfl rfl) ?_
              refine AList.nil ?_
              refine AWp.seq ?_
              refine AWp.region ?_
              refine AList.c 151 rfl rfl rfl (OpJ.move rfl rfl) ?_
              refine AList.c 152 rfl rfl rfl (OpJ.move rfl rfl) ?_
              refine AList.c 153 rfl rfl rfl (OpJ.load rfl rfl ty25 rfl) ?_
              refine AList.c 154 rfl rfl rfl (OpJ.callP (water_x l os os.length w hl hx8 rfl) rfl rfl rfl rfl rf15) ?_
              refine AList.c 150 rfl rfl rfl (OpJ.move rfl rfl) ?_
              refine AList.c 155 rfl rfl rfl (OpJ.extract rfl rfl rfl) ?_
              refine AList.c 156 rfl rfl rfl (OpJ.extract rfl rfl rfl) ?_
              refine AList.c 28 rfl rfl rfl (OpJ.allocOwn rfl zr25 rfl) ?_
              refine AList.c0 rfl rfl (OpJ.store rfl rfl rfl rfl rfl ty25 rfl rfl) ?_
              refine AList.c 29 rfl rfl rfl (OpJ.assign rfl rfl) ?_
              refine AList.nil ?_
              refine AWp.seq ?_
              refine AWp.region ?_
              refine AList.c 157 rfl rfl rfl (OpJ.load rfl rfl ty29 rfl) ?_
              refine AList.c 158 rfl rfl rfl (OpJ.load rfl rfl ty29 rfl) ?_
              refine AList.c 159 rfl rfl rfl (OpJ.eqAgg (d := 8) rfl (.inr rfl) rfl rfl (by decide) eq29 ty29 rfl eg29 rfl) ?_
              refine AList.c 160 rfl rfl rfl (OpJ.move rfl rfl) ?_
              refine AList.g 161 160 rfl rfl rfl rfl rfl rfl rfl [(12, _)] (fun h => And.intro (.inl rfl) (trivial)) (fun h => (OpJ.move rfl rfl)) ?_
              refine AList.g 162 160 rfl rfl rfl rfl rfl rfl rfl [(25, _)] (fun h => And.intro (.inl rfl) (trivial)) (fun h => (OpJ.move rfl rfl)) ?_
              refine AList.g 163 160 rfl rfl rfl rfl rfl rfl rfl [(161, _), (162, _)] (fun h => And.intro (.inr ⟨_, rfl, h⟩) (And.intro (.inr ⟨_, rfl, h⟩) (trivial))) (fun h => (OpJ.neq rfl rfl rfl)) ?_
              refine AList.c 164 rfl rfl rfl (OpJ.or_ rfl rfl rfl ?_) ?_
              · first | (intro h; rw [h]; rfl) | (intro h; simp_all)
              refine AList.c 165 rfl rfl rfl (OpJ.move rfl rfl) ?_
              refine AList.g 166 165 rfl rfl rfl rfl rfl rfl rfl [(13, _)] (fun h => And.intro (.inl rfl) (trivial)) (fun h => (OpJ.load rfl rfl ty25 rfl)) ?_
              refine AList.g 167 165 rfl rfl rfl rfl rfl rfl rfl [(26, _)] (fun h => And.intro (.inl rfl) (trivial)) (fun h => (OpJ.load rfl rfl ty25 rfl)) ?_
              refine AList.g 168 165 rfl rfl rfl rfl rfl rfl rfl [(166, _), (167, _)] (fun h => And.intro (.inr ⟨_, rfl, h⟩) (And.intro (.inr ⟨_, rfl, h⟩) (trivial))) (fun h => (OpJ.eqAgg (d := 8) rfl (.inr rfl) rfl rfl (by decide) eq25 ty25 rfl eg25 rfl)) ?_
              refine AList.c 169 rfl rfl rfl (OpJ.or_ rfl rfl rfl ?_) ?_
              · first | (intro h; rw [h]; rfl) | (intro h; simp_all)
              refine AList.c 170 rfl rfl rfl (OpJ.move rfl rfl) ?_
              refine AList.g 171 170 rfl rfl rfl rfl rfl rfl rfl [(14, _)] (fun h => And.intro (.inl rfl) (trivial)) (fun h => (OpJ.move rfl rfl)) ?_
              refine AList.g 172 170 rfl rfl rfl rfl rfl rfl rfl [(27, _)] (fun h => And.intro (.inl rfl) (trivial)) (fun h => (OpJ.move rfl rfl)) ?_
              refine AList.g 173 170 rfl rfl rfl rfl rfl rfl rfl [(171, _), (172, _)] (fun h => And.intro (.inr ⟨_, rfl, h⟩) (And.intro (.inr ⟨_, rfl, h⟩) (trivial))) (fun h => (OpJ.neq rfl rfl rfl)) ?_
              refine AList.c 174 rfl rfl rfl (OpJ.or_ rfl rfl rfl ?_) ?_
              · first | (intro h; rw [h]; rfl) | (intro h; simp_all)
              refine AList.c 175 rfl rfl rfl (OpJ.move rfl rfl) ?_
              refine AList.g 176 175 rfl rfl rfl rfl rfl rfl rfl [(15, _)] (fun h => And.intro (.inl rfl) (trivial)) (fun h => (OpJ.load rfl rfl ty25 rfl)) ?_
              refine AList.g 177 175 rfl rfl rfl rfl rfl rfl rfl [(28, _)] (fun h => And.intro (.inl rfl) (trivial)) (fun h => (OpJ.load rfl rfl ty25 rfl)) ?_
              refine AList.g 178 175 rfl rfl rfl rfl rfl rfl rfl [(176, _), (177, _)] (fun h => And.intro (.inr ⟨_, rfl, h⟩) (And.intro (.inr ⟨_, rfl, h⟩) (trivial))) (fun h => (OpJ.eqAgg (d := 8) rfl (.inr rfl) rfl rfl (by decide) eq25 ty25 rfl eg25 rfl)) ?_
              refine AList.c 179 rfl rfl rfl (OpJ.or_ rfl rfl rfl ?_) ?_
              · first | (intro h; rw [h]; rfl) | (intro h; simp_all)
              refine AList.c 180 rfl rfl rfl (OpJ.move rfl rfl) ?_
              refine AList.g 181 180 rfl rfl rfl rfl rfl rfl rfl [(16, _)] (fun h => And.intro (.inl rfl) (trivial)) (fun h => (OpJ.move rfl rfl)) ?_
              refine AList.g 182 180 rfl rfl rfl rfl rfl rfl rfl [(29, _)] (fun h => And.intro (.inl rfl) (trivial)) (fun h => (OpJ.move rfl rfl)) ?_
              refine AList.g 183 180 rfl rfl rfl rfl rfl rfl rfl [(181, _), (182, _)] (fun h => And.intro (.inr ⟨_, rfl, h⟩) (And.intro (.inr ⟨_, rfl, h⟩) (trivial))) (fun h => (OpJ.neq rfl rfl rfl)) ?_
              refine AList.c 184 rfl rfl rfl (OpJ.or_ rfl rfl rfl ?_) ?_
              · first | (intro h; rw [h]; rfl) | (intro h; simp_all)
              refine AList.nil ?_
              refine AWp.cond _ rfl (fun hc8 => ?_) (fun hc8 => ?_)
              · skip
                exfalso
                simp [hS.wL, hS.wH, hS.okE, hS.shL, hS.shH, hS.waL, hS.waH, hS.waE] at hc8
              · skip
                refine AWp.skip ?_
                refine AWp.region ?_
                refine AList.c 129 rfl rfl rfl (OpJ.move rfl rfl) ?_
                refine AList.c 130 rfl rfl rfl (OpJ.add rfl rfl rfl (i64ok ?_)) ?_
                · omega
                refine AList.c 22 rfl rfl rfl (OpJ.assign rfl rfl) ?_
                refine AList.nil ?_
                refine ⟨i + 1, ?_, ?_, ?_⟩
                · omega
                · omega
                exact To.done [0, 1, 2] rfl (by repeat (first | exact Sub.nil | refine Sub.cons rfl ?_)) rfl
          · skip
            refine AWp.skip ?_
            refine AWp.seq ?_
            refine AWp.seq ?_
            refine AWp.region ?_
            refine AList.c 135 rfl rfl rfl (OpJ.move rfl rfl) ?_
            refine AList.c 136 rfl rfl rfl (OpJ.lenSlice rfl rfl sl23 rfl) ?_
            refine AList.c 137 rfl rfl rfl (OpJ.eql rfl rfl rfl) ?_
            refine AList.nil ?_
            refine AWp.cond _ rfl (fun hc7 => ?_) (fun hc7 => ?_)
            · skip
              refine AWp.exit ?_
              refine AWp.region ?_
              refine AList.c 129 rfl rfl rfl (OpJ.move rfl rfl) ?_
              refine AList.c 130 rfl rfl rfl (OpJ.add rfl rfl rfl (i64ok ?_)) ?_
              · omega
              refine AList.c 22 rfl rfl rfl (OpJ.assign rfl rfl) ?_
              refine AList.nil ?_
              refine ⟨i + 1, ?_, ?_, ?_⟩
              · omega
              · omega
              exact To.done [0, 1, 2] rfl (by repeat (first | exact Sub.nil | refine Sub.cons rfl ?_)) rfl
            · skip
              have hS := turn_same hv tu
              have hx8 : (turnL b tu b.length).length ≤ bigN := by rw [turnL_length]; exact hb
              refine AWp.skip ?_
              refine AWp.seq ?_
              refine AWp.region ?_
              refine AList.c 139 rfl rfl rfl (OpJ.move rfl rfl) ?_
              refine AList.c 140 rfl rfl rfl (OpJ.move rfl rfl) ?_
              refine AList.c 141 rfl rfl rfl (OpJ.callP (weigh_x l (turnL b tu b.length) b.length hl hx8 (turnL_length b tu b.length)) rfl rfl rfl rfl rf11) ?_
              refine AList.c 138 rfl rfl rfl (OpJ.move rfl rfl) ?_
              refine AList.c 142 rfl rfl rfl (OpJ.extract rfl rfl rfl) ?_
              refine AList.c 143 rfl rfl rfl (OpJ.extract rfl rfl rfl) ?_
              refine AList.c 24 rfl rfl rfl (OpJ.allocOwn rfl zr29 rfl) ?_
              refine AList.c0 rfl rfl (OpJ.store rfl rfl rfl rfl rfl ty29 rfl rfl) ?_
              refine AList.c 25 rfl rfl rfl (OpJ.assign rfl rfl) ?_
              refine AList.nil ?_
              refine AWp.seq ?_
              refine AWp.region ?_
              refine AList.c 145 rfl rfl rfl (OpJ.move rfl rfl) ?_
              refine AList.c 146 rfl rfl rfl (OpJ.move rfl rfl) ?_
              refine AList.c 147 rfl rfl rfl (OpJ.callP (share_x l (turnL b tu b.length) b.length hl hx8 (turnL_length b tu b.length)) rfl rfl rfl rfl rf13) ?_
              refine AList.c 144 rfl rfl rfl (OpJ.move rfl rfl) ?_
              refine AList.c 148 rfl rfl rfl (OpJ.extract rfl rfl rfl) ?_
              refine AList.c 149 rfl rfl rfl (OpJ.extract rfl rfl rfl) ?_
              refine AList.c 26 rfl rfl rfl (OpJ.allocOwn rfl zr25 rfl) ?_
              refine AList.c0 rfl rfl (OpJ.store rfl rfl rfl rfl rfl ty25 rfl rfl) ?_
              refine AList.c 27 rfl rfl rfl (OpJ.assign rfl rfl) ?_
              refine AList.nil ?_
              refine AWp.seq ?_
              refine AWp.region ?_
              refine AList.c 151 rfl rfl rfl (OpJ.move rfl rfl) ?_
              refine AList.c 152 rfl rfl rfl (OpJ.move rfl rfl) ?_
              refine AList.c 153 rfl rfl rfl (OpJ.load rfl rfl ty25 rfl) ?_
              refine AList.c 154 rfl rfl rfl (OpJ.callP (water_x l (turnL b tu b.length) b.length w hl hx8 (turnL_length b tu b.length)) rfl rfl rfl rfl rf15) ?_
              refine AList.c 150 rfl rfl rfl (OpJ.move rfl rfl) ?_
              refine AList.c 155 rfl rfl rfl (OpJ.extract rfl rfl rfl) ?_
              refine AList.c 156 rfl rfl rfl (OpJ.extract rfl rfl rfl) ?_
              refine AList.c 28 rfl rfl rfl (OpJ.allocOwn rfl zr25 rfl) ?_
              refine AList.c0 rfl rfl (OpJ.store rfl rfl rfl rfl rfl ty25 rfl rfl) ?_
              refine AList.c 29 rfl rfl rfl (OpJ.assign rfl rfl) ?_
              refine AList.nil ?_
              refine AWp.seq ?_
              refine AWp.region ?_
              refine AList.c 157 rfl rfl rfl (OpJ.load rfl rfl ty29 rfl) ?_
              refine AList.c 158 rfl rfl rfl (OpJ.load rfl rfl ty29 rfl) ?_
              refine AList.c 159 rfl rfl rfl (OpJ.eqAgg (d := 8) rfl (.inr rfl) rfl rfl (by decide) eq29 ty29 rfl eg29 rfl) ?_
              refine AList.c 160 rfl rfl rfl (OpJ.move rfl rfl) ?_
              refine AList.g 161 160 rfl rfl rfl rfl rfl rfl rfl [(12, _)] (fun h => And.intro (.inl rfl) (trivial)) (fun h => (OpJ.move rfl rfl)) ?_
              refine AList.g 162 160 rfl rfl rfl rfl rfl rfl rfl [(25, _)] (fun h => And.intro (.inl rfl) (trivial)) (fun h => (OpJ.move rfl rfl)) ?_
              refine AList.g 163 160 rfl rfl rfl rfl rfl rfl rfl [(161, _), (162, _)] (fun h => And.intro (.inr ⟨_, rfl, h⟩) (And.intro (.inr ⟨_, rfl, h⟩) (trivial))) (fun h => (OpJ.neq rfl rfl rfl)) ?_
              refine AList.c 164 rfl rfl rfl (OpJ.or_ rfl rfl rfl ?_) ?_
              · first | (intro h; rw [h]; rfl) | (intro h; simp_all)
              refine AList.c 165 rfl rfl rfl (OpJ.move rfl rfl) ?_
              refine AList.g 166 165 rfl rfl rfl rfl rfl rfl rfl [(13, _)] (fun h => And.intro (.inl rfl) (trivial)) (fun h => (OpJ.load rfl rfl ty25 rfl)) ?_
              refine AList.g 167 165 rfl rfl rfl rfl rfl rfl rfl [(26, _)] (fun h => And.intro (.inl rfl) (trivial)) (fun h => (OpJ.load rfl rfl ty25 rfl)) ?_
              refine AList.g 168 165 rfl rfl rfl rfl rfl rfl rfl [(166, _), (167, _)] (fun h => And.intro (.inr ⟨_, rfl, h⟩) (And.intro (.inr ⟨_, rfl, h⟩) (trivial))) (fun h => (OpJ.eqAgg (d := 8) rfl (.inr rfl) rfl rfl (by decide) eq25 ty25 rfl eg25 rfl)) ?_
              refine AList.c 169 rfl rfl rfl (OpJ.or_ rfl rfl rfl ?_) ?_
              · first | (intro h; rw [h]; rfl) | (intro h; simp_all)
              refine AList.c 170 rfl rfl rfl (OpJ.move rfl rfl) ?_
              refine AList.g 171 170 rfl rfl rfl rfl rfl rfl rfl [(14, _)] (fun h => And.intro (.inl rfl) (trivial)) (fun h => (OpJ.move rfl rfl)) ?_
              refine AList.g 172 170 rfl rfl rfl rfl rfl rfl rfl [(27, _)] (fun h => And.intro (.inl rfl) (trivial)) (fun h => (OpJ.move rfl rfl)) ?_
              refine AList.g 173 170 rfl rfl rfl rfl rfl rfl rfl [(171, _), (172, _)] (fun h => And.intro (.inr ⟨_, rfl, h⟩) (And.intro (.inr ⟨_, rfl, h⟩) (trivial))) (fun h => (OpJ.neq rfl rfl rfl)) ?_
              refine AList.c 174 rfl rfl rfl (OpJ.or_ rfl rfl rfl ?_) ?_
              · first | (intro h; rw [h]; rfl) | (intro h; simp_all)
              refine AList.c 175 rfl rfl rfl (OpJ.move rfl rfl) ?_
              refine AList.g 176 175 rfl rfl rfl rfl rfl rfl rfl [(15, _)] (fun h => And.intro (.inl rfl) (trivial)) (fun h => (OpJ.load rfl rfl ty25 rfl)) ?_
              refine AList.g 177 175 rfl rfl rfl rfl rfl rfl rfl [(28, _)] (fun h => And.intro (.inl rfl) (trivial)) (fun h => (OpJ.load rfl rfl ty25 rfl)) ?_
              refine AList.g 178 175 rfl rfl rfl rfl rfl rfl rfl [(176, _), (177, _)] (fun h => And.intro (.inr ⟨_, rfl, h⟩) (And.intro (.inr ⟨_, rfl, h⟩) (trivial))) (fun h => (OpJ.eqAgg (d := 8) rfl (.inr rfl) rfl rfl (by decide) eq25 ty25 rfl eg25 rfl)) ?_
              refine AList.c 179 rfl rfl rfl (OpJ.or_ rfl rfl rfl ?_) ?_
              · first | (intro h; rw [h]; rfl) | (intro h; simp_all)
              refine AList.c 180 rfl rfl rfl (OpJ.move rfl rfl) ?_
              refine AList.g 181 180 rfl rfl rfl rfl rfl rfl rfl [(16, _)] (fun h => And.intro (.inl rfl) (trivial)) (fun h => (OpJ.move rfl rfl)) ?_
              refine AList.g 182 180 rfl rfl rfl rfl rfl rfl rfl [(29, _)] (fun h => And.intro (.inl rfl) (trivial)) (fun h => (OpJ.move rfl rfl)) ?_
              refine AList.g 183 180 rfl rfl rfl rfl rfl rfl rfl [(181, _), (182, _)] (fun h => And.intro (.inr ⟨_, rfl, h⟩) (And.intro (.inr ⟨_, rfl, h⟩) (trivial))) (fun h => (OpJ.neq rfl rfl rfl)) ?_
              refine AList.c 184 rfl rfl rfl (OpJ.or_ rfl rfl rfl ?_) ?_
              · first | (intro h; rw [h]; rfl) | (intro h; simp_all)
              refine AList.nil ?_
              refine AWp.cond _ rfl (fun hc8 => ?_) (fun hc8 => ?_)
              · skip
                exfalso
                simp [hS.wL, hS.wH, hS.okE, hS.shL, hS.shH, hS.waL, hS.waH, hS.waE] at hc8
              · skip
                refine AWp.skip ?_
                refine AWp.region ?_
                refine AList.c 129 rfl rfl rfl (OpJ.move rfl rfl) ?_
                refine AList.c 130 rfl rfl rfl (OpJ.add rfl rfl rfl (i64ok ?_)) ?_
                · omega
                refine AList.c 22 rfl rfl rfl (OpJ.assign rfl rfl) ?_
                refine AList.nil ?_
                refine ⟨i + 1, ?_, ?_, ?_⟩
                · omega
                · omega
                exact To.done [0, 1, 2] rfl (by repeat (first | exact Sub.nil | refine Sub.cons rfl ?_)) rfl
        · skip
          refine AWp.exit ?_
          refine AWp.join (fun (_ : Unit) => [(0, .p (sacksV l)), (1, .p (takesV b)), (3, .p (.int .u8 (tu : Int))), (4, .p (.int .u8 (yb : Int))), (7, .p (.ip [.int .i64 w.lo, .int .i64 w.hi] 0)), (11, .ptr 0 0), (12, .p (.int .i64 (okE l b))), (13, .ptr 1 0), (14, .p (.int .i64 (okE l b))), (15, .ptr 2 0), (16, .p (.int .i64 (waE l b w))), (17, .p (.is ((turnL b tu b.length).flatMap Tk.cells) b.length)), (18, .p (.is (os.flatMap Tk.cells) os.length))]) (fun (_ : Unit) => [.cells [.p (.int .i64 (wL l b 0)), .p (.int .i64 (wH l b 0)), .p (.int .i64 (wL l b 1)), .p (.int .i64 (wH l b 1)), .p (.int .i64 (wL l b 2)), .p (.int .i64 (wH l b 2)), .p (.int .i64 (wL l b 3)), .p (.int .i64 (wH l b 3)), .p (.int .i64 (wL l b 4)), .p (.int .i64 (wH l b 4))] 29, .cells [.p (.int .i64 (shL l b)), .p (.int .i64 (shH l b))] 25, .cells [.p (.int .i64 (waL l b w)), .p (.int .i64 (waH l b w))] 25]) (fun (_ : Unit) => True) ?_ (fun _u _hu => ?_)
          · skip
            refine AWp.seq ?_
            refine AWp.region ?_
            refine AList.c 185 rfl rfl rfl (OpJ.move rfl rfl) ?_
            refine AList.c 186 rfl rfl rfl (OpJ.lenSlice rfl rfl sl23 rfl) ?_
            refine AList.c 187 rfl rfl rfl (OpJ.gtr rfl rfl rfl) ?_
            refine AList.nil ?_
            refine AWp.cond _ rfl (fun hc9 => ?_) (fun hc9 => ?_)
            · skip
              have hb1 : 1 < b.length := by simp at hc9; omega
              have hcm := Nat.mod_lt yb (show 0 < b.length - 1 by omega)
              have hcv := cut_valid hv (c := (1 + yb % (b.length - 1))) (by omega) (by omega)
              have hcp := cut_parts hv (c := (1 + yb % (b.length - 1))) (by omega) (by omega) 0
              have okT1 := okB_of (n := l.length) (b := b.take (1 + yb % (b.length - 1))) (by have := hcv.1; unfold validB at this; simp only [Bool.and_eq_true] at this; exact this.2)
              have okT2 := okB_of (n := l.length) (b := b.drop (1 + yb % (b.length - 1))) (by have := hcv.2; unfold validB at this; simp only [Bool.and_eq_true] at this; exact this.2)
              have wb0 := wLH_B okl okb.1 hv 0
              have wb1 := wLH_B okl okT1.1 hcv.1 0
              have wb2 := wLH_B okl okT2.1 hcv.2 0
              have hokA : okE l (b.take (1 + yb % (b.length - 1))) = 0 := by simp [okE, hcv.1]
              have hokB : okE l (b.drop (1 + yb % (b.length - 1))) = 0 := by simp [okE, hcv.2]
              refine AWp.seq ?_
              refine AWp.region ?_
              refine AList.c 188 rfl rfl rfl (OpJ.move rfl rfl) ?_
              refine AList.c 189 rfl rfl rfl (OpJ.convInt rfl rfl (by rw [un5]; rfl) un3 (i64ok ?_)) ?_
              · omega
              refine AList.c 190 rfl rfl rfl (OpJ.move rfl rfl) ?_
              refine AList.c 191 rfl rfl rfl (OpJ.lenSlice rfl rfl sl23 rfl) ?_
              refine AList.c 192 rfl rfl rfl (OpJ.sub_ (m := ((b.length - 1 : Nat) : Int)) rfl rfl rfl ((i64ok ?_).trans ?_)) ?_
              · omega
              · omega
              refine AList.c 193 rfl rfl rfl (OpJ.rem (m := ((yb % (b.length - 1) : Nat) : Int)) rfl rfl rfl ?_ ?_) ?_
              · omega
              · exact tmodN _ _
              refine AList.c 194 rfl rfl rfl (OpJ.add (m := ((1 + yb % (b.length - 1) : Nat) : Int)) rfl rfl rfl ((i64ok ?_).trans ?_)) ?_
              · omega
              · omega
              refine AList.c 30 rfl rfl rfl (OpJ.assign rfl rfl) ?_
              refine AList.nil ?_
              refine AWp.seq ?_
              refine AWp.region ?_
              refine AList.c 196 rfl rfl rfl (OpJ.move rfl rfl) ?_
              refine AList.c 197 rfl rfl rfl (OpJ.move rfl rfl) ?_
              refine AList.c 198 rfl rfl rfl (OpJ.move rfl rfl) ?_
              refine AList.c 199 rfl rfl rfl (OpJ.sliceIs (l := 0) (h := (1 + yb % (b.length - 1))) (r := ((b.take (1 + yb % (b.length - 1))).flatMap Tk.cells)) rfl rfl sl23 el23 rfl ⟨_, rfl⟩ (by omega) (by omega) (by rw [Nat.zero_mul, List.drop_zero, Nat.sub_zero, flat_take (c := 3) (fun _ => rfl)])) ?_
              refine AList.c 200 rfl rfl rfl (OpJ.callP (weigh_x l (b.take (1 + yb % (b.length - 1))) _ hl (by simp; omega) (by simp; omega)) rfl rfl rfl rfl rf11) ?_
              refine AList.c 195 rfl rfl rfl (OpJ.move rfl rfl) ?_
              refine AList.c 201 rfl rfl rfl (OpJ.extract rfl rfl rfl) ?_
              refine AList.c 202 rfl rfl rfl (OpJ.extract rfl rfl rfl) ?_
              refine AList.c 31 rfl rfl rfl (OpJ.allocOwn rfl zr29 rfl) ?_
              refine AList.c0 rfl rfl (OpJ.store rfl rfl rfl rfl rfl ty29 rfl rfl) ?_
              refine AList.c 32 rfl rfl rfl (OpJ.assign rfl rfl) ?_
              refine AList.nil ?_
              refine AWp.seq ?_
              refine AWp.region ?_
              refine AList.c 204 rfl rfl rfl (OpJ.move rfl rfl) ?_
              refine AList.c 205 rfl rfl rfl (OpJ.move rfl rfl) ?_
              refine AList.c 206 rfl rfl rfl (OpJ.move rfl rfl) ?_
              refine AList.c 207 rfl rfl rfl (OpJ.sliceIs (l := (1 + yb % (b.length - 1))) (h := b.length) (r := ((b.drop (1 + yb % (b.length - 1))).flatMap Tk.cells)) rfl rfl sl23 el23 ⟨_, rfl⟩ rfl (by omega) (by omega) (by rw [flat_drop (c := 3) (fun _ => rfl)]; exact List.take_of_length_le (by rw [flat_len (c := 3) (fun _ => rfl)]; simp))) ?_
              refine AList.c 208 rfl rfl rfl (OpJ.callP (weigh_x l (b.drop (1 + yb % (b.length - 1))) _ hl (by simp; omega) (by simp)) rfl rfl rfl rfl rf11) ?_
              refine AList.c 203 rfl rfl rfl (OpJ.move rfl rfl) ?_
              refine AList.c 209 rfl rfl rfl (OpJ.extract rfl rfl rfl) ?_
              refine AList.c 210 rfl rfl rfl (OpJ.extract rfl rfl rfl) ?_
              refine AList.c 33 rfl rfl rfl (OpJ.allocOwn rfl zr29 rfl) ?_
              refine AList.c0 rfl rfl (OpJ.store rfl rfl rfl rfl rfl ty29 rfl rfl) ?_
              refine AList.c 34 rfl rfl rfl (OpJ.assign rfl rfl) ?_
              refine AList.nil ?_
              refine AWp.seq ?_
              refine AWp.region ?_
              refine AList.c 211 rfl rfl rfl (OpJ.move rfl rfl) ?_
              refine AList.c 212 rfl rfl rfl (OpJ.neq rfl rfl rfl) ?_
              refine AList.c 213 rfl rfl rfl (OpJ.move rfl rfl) ?_
              refine AList.g 214 213 rfl rfl rfl rfl rfl rfl rfl [(34, _)] (fun h => And.intro (.inl rfl) (trivial)) (fun h => (OpJ.move rfl rfl)) ?_
              refine AList.g 215 213 rfl rfl rfl rfl rfl rfl rfl [(214, _)] (fun h => And.intro (.inr ⟨_, rfl, h⟩) (trivial)) (fun h => (OpJ.neq rfl rfl rfl)) ?_
              refine AList.c 216 rfl rfl rfl (OpJ.or_ rfl rfl rfl ?_) ?_
              · first | (intro h; rw [h]; rfl) | (intro h; simp_all)
              refine AList.c 217 rfl rfl rfl (OpJ.move rfl rfl) ?_
              refine AList.g 218 217 rfl rfl rfl rfl rfl rfl rfl [(31, _)] (fun h => And.intro (.inl rfl) (trivial)) (fun h => (OpJ.fieldAddr rfl rfl fd29_0 rfl)) ?_
              refine AList.g 219 217 rfl rfl rfl rfl rfl rfl rfl [(218, _)] (fun h => And.intro (.inr ⟨_, rfl, h⟩) (trivial)) (fun h => (OpJ.fieldAddr rfl rfl fd25_0 rfl)) ?_
              refine AList.g 220 217 rfl rfl rfl rfl rfl rfl rfl [(219, _)] (fun h => And.intro (.inr ⟨_, rfl, h⟩) (trivial)) (fun h => (OpJ.load rfl rfl ty3 rfl)) ?_
              refine AList.g 221 217 rfl rfl rfl rfl rfl rfl rfl [(33, _)] (fun h => And.intro (.inl rfl) (trivial)) (fun h => (OpJ.fieldAddr rfl rfl fd29_0 rfl)) ?_
              refine AList.g 222 217 rfl rfl rfl rfl rfl rfl rfl [(221, _)] (fun h => And.intro (.inr ⟨_, rfl, h⟩) (trivial)) (fun h => (OpJ.fieldAddr rfl rfl fd25_0 rfl)) ?_
              refine AList.g 223 217 rfl rfl rfl rfl rfl rfl rfl [(222, _)] (fun h => And.intro (.inr ⟨_, rfl, h⟩) (trivial)) (fun h => (OpJ.load rfl rfl ty3 rfl)) ?_
              refine AList.g 224 217 rfl rfl rfl rfl rfl rfl rfl [(220, _), (223, _)] (fun h => And.intro (.inr ⟨_, rfl, h⟩) (And.intro (.inr ⟨_, rfl, h⟩) (trivial))) (fun h => (OpJ.add rfl rfl rfl (i64ok (by omega)))) ?_
              refine AList.g 225 217 rfl rfl rfl rfl rfl rfl rfl [(11, _)] (fun h => And.intro (.inl rfl) (trivial)) (fun h => (OpJ.fieldAddr rfl rfl fd29_0 rfl)) ?_
              refine AList.g 226 217 rfl rfl rfl rfl rfl rfl rfl [(225, _)] (fun h => And.intro (.inr ⟨_, rfl, h⟩) (trivial)) (fun h => (OpJ.fieldAddr rfl rfl fd25_0 rfl)) ?_
              refine AList.g 227 217 rfl rfl rfl rfl rfl rfl rfl [(226, _)] (fun h => And.intro (.inr ⟨_, rfl, h⟩) (trivial)) (fun h => (OpJ.load rfl rfl ty3 rfl)) ?_
              refine AList.g 228 217 rfl rfl rfl rfl rfl rfl rfl [(224, _), (227, _)] (fun h => And.intro (.inr ⟨_, rfl, h⟩) (And.intro (.inr ⟨_, rfl, h⟩) (trivial))) (fun h => (OpJ.gtr rfl rfl rfl)) ?_
              refine AList.c 229 rfl rfl rfl (OpJ.or_ rfl rfl rfl ?_) ?_
              · first | (intro h; rw [h]; rfl) | (intro h; simp_all)
              refine AList.c 230 rfl rfl rfl (OpJ.move rfl rfl) ?_
              refine AList.g 231 230 rfl rfl rfl rfl rfl rfl rfl [(31, _)] (fun h => And.intro (.inl rfl) (trivial)) (fun h => (OpJ.fieldAddr rfl rfl fd29_0 rfl)) ?_
              refine AList.g 232 230 rfl rfl rfl rfl rfl rfl rfl [(231, _)] (fun h => And.intro (.inr ⟨_, rfl, h⟩) (trivial)) (fun h => (OpJ.fieldAddr rfl rfl fd25_0 rfl)) ?_
              refine AList.g 233 230 rfl rfl rfl rfl rfl rfl rfl [(232, _)] (fun h => And.intro (.inr ⟨_, rfl, h⟩) (trivial)) (fun h => (OpJ.load rfl rfl ty3 rfl)) ?_
              refine AList.g 234 230 rfl rfl rfl rfl rfl rfl rfl [(33, _)] (fun h => And.intro (.inl rfl) (trivial)) (fun h => (OpJ.fieldAddr rfl rfl fd29_0 rfl)) ?_
              refine AList.g 235 230 rfl rfl rfl rfl rfl rfl rfl [(234, _)] (fun h => And.intro (.inr ⟨_, rfl, h⟩) (trivial)) (fun h => (OpJ.fieldAddr rfl rfl fd25_0 rfl)) ?_
              refine AList.g 236 230 rfl rfl rfl rfl rfl rfl rfl [(235, _)] (fun h => And.intro (.inr ⟨_, rfl, h⟩) (trivial)) (fun h => (OpJ.load rfl rfl ty3 rfl)) ?_
              refine AList.g 237 230 rfl rfl rfl rfl rfl rfl rfl [(233, _), (236, _)] (fun h => And.intro (.inr ⟨_, rfl, h⟩) (And.intro (.inr ⟨_, rfl, h⟩) (trivial))) (fun h => (OpJ.add rfl rfl rfl (i64ok (by omega)))) ?_
              refine AList.g 238 230 rfl rfl rfl rfl rfl rfl rfl [(11, _)] (fun h => And.intro (.inl rfl) (trivial)) (fun h => (OpJ.fieldAddr rfl rfl fd29_0 rfl)) ?_
              refine AList.g 239 230 rfl rfl rfl rfl rfl rfl rfl [(238, _)] (fun h => And.intro (.inr ⟨_, rfl, h⟩) (trivial)) (fun h => (OpJ.fieldAddr rfl rfl fd25_0 rfl)) ?_
              refine AList.g 240 230 rfl rfl rfl rfl rfl rfl rfl [(239, _)] (fun h => And.intro (.inr ⟨_, rfl, h⟩) (trivial)) (fun h => (OpJ.load rfl rfl ty3 rfl)) ?_
              refine AList.g 241 230 rfl rfl rfl rfl rfl rfl rfl [(240, _)] (fun h => And.intro (.inr ⟨_, rfl, h⟩) (trivial)) (fun h => (OpJ.sub_ rfl rfl rfl (i64ok (by omega)))) ?_
              refine AList.g 242 230 rfl rfl rfl rfl rfl rfl rfl [(237, _), (241, _)] (fun h => And.intro (.inr ⟨_, rfl, h⟩) (And.intro (.inr ⟨_, rfl, h⟩) (trivial))) (fun h => (OpJ.lss rfl rfl rfl)) ?_
              refine AList.c 243 rfl rfl rfl (OpJ.or_ rfl rfl rfl ?_) ?_
              · first | (intro h; rw [h]; rfl) | (intro h; simp_all)
              refine AList.c 244 rfl rfl rfl (OpJ.move rfl rfl) ?_
              refine AList.g 245 244 rfl rfl rfl rfl rfl rfl rfl [(31, _)] (fun h => And.intro (.inl rfl) (trivial)) (fun h => (OpJ.fieldAddr rfl rfl fd29_0 rfl)) ?_
              refine AList.g 246 244 rfl rfl rfl rfl rfl rfl rfl [(245, _)] (fun h => And.intro (.inr ⟨_, rfl, h⟩) (trivial)) (fun h => (OpJ.fieldAddr rfl rfl fd25_1 rfl)) ?_
              refine AList.g 247 244 rfl rfl rfl rfl rfl rfl rfl [(246, _)] (fun h => And.intro (.inr ⟨_, rfl, h⟩) (trivial)) (fun h => (OpJ.load rfl rfl ty3 rfl)) ?_
              refine AList.g 248 244 rfl rfl rfl rfl rfl rfl rfl [(33, _)] (fun h => And.intro (.inl rfl) (trivial)) (fun h => (OpJ.fieldAddr rfl rfl fd29_0 rfl)) ?_
              refine AList.g 249 244 rfl rfl rfl rfl rfl rfl rfl [(248, _)] (fun h => And.intro (.inr ⟨_, rfl, h⟩) (trivial)) (fun h => (OpJ.fieldAddr rfl rfl fd25_1 rfl)) ?_
              refine AList.g 250 244 rfl rfl rfl rfl rfl rfl rfl [(249, _)] (fun h => And.intro (.inr ⟨_, rfl, h⟩) (trivial)) (fun h => (OpJ.load rfl rfl ty3 rfl)) ?_
              refine AList.g 251 244 rfl rfl rfl rfl rfl rfl rfl [(247, _), (250, _)] (fun h => And.intro (.inr ⟨_, rfl, h⟩) (And.intro (.inr ⟨_, rfl, h⟩) (trivial))) (fun h => (OpJ.add rfl rfl rfl (i64ok (by omega)))) ?_
              refine AList.g 252 244 rfl rfl rfl rfl rfl rfl rfl [(11, _)] (fun h => And.intro (.inl rfl) (trivial)) (fun h => (OpJ.fieldAddr rfl rfl fd29_0 rfl)) ?_
              refine AList.g 253 244 rfl rfl rfl rfl rfl rfl rfl [(252, _)] (fun h => And.intro (.inr ⟨_, rfl, h⟩) (trivial)) (fun h => (OpJ.fieldAddr rfl rfl fd25_1 rfl)) ?_
              refine AList.g 254 244 rfl rfl rfl rfl rfl rfl rfl [(253, _)] (fun h => And.intro (.inr ⟨_, rfl, h⟩) (trivial)) (fun h => (OpJ.load rfl rfl ty3 rfl)) ?_
              refine AList.g 255 244 rfl rfl rfl rfl rfl rfl rfl [(251, _), (254, _)] (fun h => And.intro (.inr ⟨_, rfl, h⟩) (And.intro (.inr ⟨_, rfl, h⟩) (trivial))) (fun h => (OpJ.lss rfl rfl rfl)) ?_
              refine AList.c 256 rfl rfl rfl (OpJ.or_ rfl rfl rfl ?_) ?_
              · first | (intro h; rw [h]; rfl) | (intro h; simp_all)
              refine AList.c 257 rfl rfl rfl (OpJ.move rfl rfl) ?_
              refine AList.g 258 257 rfl rfl rfl rfl rfl rfl rfl [(31, _)] (fun h => And.intro (.inl rfl) (trivial)) (fun h => (OpJ.fieldAddr rfl rfl fd29_0 rfl)) ?_
              refine AList.g 259 257 rfl rfl rfl rfl rfl rfl rfl [(258, _)] (fun h => And.intro (.inr ⟨_, rfl, h⟩) (trivial)) (fun h => (OpJ.fieldAddr rfl rfl fd25_1 rfl)) ?_
              refine AList.g 260 257 rfl rfl rfl rfl rfl rfl rfl [(259, _)] (fun h => And.intro (.inr ⟨_, rfl, h⟩) (trivial)) (fun h => (OpJ.load rfl rfl ty3 rfl)) ?_
              refine AList.g 261 257 rfl rfl rfl rfl rfl rfl rfl [(33, _)] (fun h => And.intro (.inl rfl) (trivial)) (fun h => (OpJ.fieldAddr rfl rfl fd29_0 rfl)) ?_
              refine AList.g 262 257 rfl rfl rfl rfl rfl rfl rfl [(261, _)] (fun h => And.intro (.inr ⟨_, rfl, h⟩) (trivial)) (fun h => (OpJ.fieldAddr rfl rfl fd25_1 rfl)) ?_
              refine AList.g 263 257 rfl rfl rfl rfl rfl rfl rfl [(262, _)] (fun h => And.intro (.inr ⟨_, rfl, h⟩) (trivial)) (fun h => (OpJ.load rfl rfl ty3 rfl)) ?_
              refine AList.g 264 257 rfl rfl rfl rfl rfl rfl rfl [(260, _), (263, _)] (fun h => And.intro (.inr ⟨_, rfl, h⟩) (And.intro (.inr ⟨_, rfl, h⟩) (trivial))) (fun h => (OpJ.add rfl rfl rfl (i64ok (by omega)))) ?_
              refine AList.g 265 257 rfl rfl rfl rfl rfl rfl rfl [(11, _)] (fun h => And.intro (.inl rfl) (trivial)) (fun h => (OpJ.fieldAddr rfl rfl fd29_0 rfl)) ?_
              refine AList.g 266 257 rfl rfl rfl rfl rfl rfl rfl [(265, _)] (fun h => And.intro (.inr ⟨_, rfl, h⟩) (trivial)) (fun h => (OpJ.fieldAddr rfl rfl fd25_1 rfl)) ?_
              refine AList.g 267 257 rfl rfl rfl rfl rfl rfl rfl [(266, _)] (fun h => And.intro (.inr ⟨_, rfl, h⟩) (trivial)) (fun h => (OpJ.load rfl rfl ty3 rfl)) ?_
              refine AList.g 268 257 rfl rfl rfl rfl rfl rfl rfl [(267, _)] (fun h => And.intro (.inr ⟨_, rfl, h⟩) (trivial)) (fun h => (OpJ.add rfl rfl rfl (i64ok (by omega)))) ?_
              refine AList.g 269 257 rfl rfl rfl rfl rfl rfl rfl [(264, _), (268, _)] (fun h => And.intro (.inr ⟨_, rfl, h⟩) (And.intro (.inr ⟨_, rfl, h⟩) (trivial))) (fun h => (OpJ.gtr rfl rfl rfl)) ?_
              refine AList.c 270 rfl rfl rfl (OpJ.or_ rfl rfl rfl ?_) ?_
              · first | (intro h; rw [h]; rfl) | (intro h; simp_all)
              refine AList.nil ?_
              refine AWp.cond _ rfl (fun hc10 => ?_) (fun hc10 => ?_)
              · skip
                exfalso
                rw [hokA, hokB] at hc10
                simp at hc10
                omega
              · skip
                refine AWp.skip ?_
                exact ⟨(), trivial, To.done [0, 1, 2] rfl (by repeat (first | exact Sub.nil | refine Sub.cons rfl ?_)) rfl⟩
            · skip
              refine AWp.skip ?_
              exact ⟨(), trivial, To.done [0, 1, 2] rfl (by repeat (first | exact Sub.nil | refine Sub.cons rfl ?_)) rfl⟩
          · skip
            refine AWp.seq ?_
            refine AWp.region ?_
            refine AList.c 271 rfl rfl rfl (OpJ.buildOwn rfl slz22 (by decide) rfl rfl) ?_
            refine AList.c 272 rfl rfl rfl (OpJ.move rfl rfl) ?_
            refine AList.c 273 rfl rfl rfl (OpJ.appendRow rfl rfl rfl slz22 sl22 rfl ?_ (asrc_is (by rw [flat_len (c := 6) (fun _ => rfl)]; rfl)) (skOne l) by57 (by decide) ?_) ?_
            · rfl
            · omega
            refine AList.c 35 rfl rfl rfl (OpJ.assign rfl rfl) ?_
            refine AList.nil ?_
            refine AWp.seq ?_
            refine AWp.norm [0, 1, 2, 4] [(0, .p (sacksV l)), (1, .p (takesV b)), (3, .p (.int .u8 (tu : Int))), (4, .p (.int .u8 (yb : Int))), (7, .p (.ip [.int .i64 w.lo, .int .i64 w.hi] 0)), (11, .ptr 0 0), (12, .p (.int .i64 (okE l b))), (13, .ptr 1 0), (14, .p (.int .i64 (okE l b))), (15, .ptr 2 0), (16, .p (.int .i64 (waE l b w))), (35, .row 3 (0 + l.length))] [.cells [.p (.int .i64 (wL l b 0)), .p (.int .i64 (wH l b 0)), .p (.int .i64 (wL l b 1)), .p (.int .i64 (wH l b 1)), .p (.int .i64 (wL l b 2)), .p (.int .i64 (wH l b 2)), .p (.int .i64 (wL l b 3)), .p (.int .i64 (wH l b 3)), .p (.int .i64 (wL l b 4)), .p (.int .i64 (wH l b 4))] 29, .cells [.p (.int .i64 (shL l b)), .p (.int .i64 (shH l b))] 25, .cells [.p (.int .i64 (waL l b w)), .p (.int .i64 (waH l b w))] 25, .row ((l.flatMap Sk.cells).map .p) 57] rfl (by repeat (first | exact Sub.nil | refine Sub.cons rfl ?_)) (by show [_, _, _, Blk.row (renL _ (_ ++ _)) _] = _; rw [renL_app, renL_pure (pl [0, 1, 2, 4]) (l.flatMap Sk.cells)]; rfl) ?_
            have hkk : tu % l.length < l.length := Nat.mod_lt _ hl0
            have hsk := okl.2 l[tu % l.length] (List.getElem_mem _)
            unfold okSk at hsk
            refine AWp.region ?_
            refine AList.c 274 rfl rfl rfl (OpJ.move rfl rfl) ?_
            refine AList.c 275 rfl rfl rfl (OpJ.convInt rfl rfl (by rw [un5]; rfl) un3 (i64ok ?_)) ?_
            · omega
            refine AList.c 276 rfl rfl rfl (OpJ.move rfl rfl) ?_
            refine AList.c 277 rfl rfl rfl (OpJ.lenSlice rfl rfl sl22 rfl) ?_
            refine AList.c 278 rfl rfl rfl (OpJ.rem (m := ((tu % l.length : Nat) : Int)) rfl rfl rfl ?_ ?_) ?_
            · omega
            · exact tmodN _ _
            refine AList.c 36 rfl rfl rfl (OpJ.assign rfl rfl) ?_
            refine AList.nil ?_
            refine AWp.seq ?_
            refine AWp.regionDraw 22 mixed (by kernel_rfl) (by decide) ?_
            refine AQuiet.cons 279 rfl rfl rfl (OpJ.move rfl rfl) ?_
            refine AQuiet.cons 280 rfl rfl rfl (OpJ.move rfl rfl) ?_
            refine AQuiet.cons 281 rfl rfl rfl (OpJ.move rfl rfl) ?_
            refine AQuiet.cons 282 rfl rfl rfl (OpJ.move rfl rfl) ?_
            refine AQuiet.cons 283 rfl rfl rfl (OpJ.indexEl rfl rfl rfl sl22 el22 rfl (fun _ => rfl) (by decide) hkk) ?_
            refine AQuiet.cons 284 rfl rfl rfl (OpJ.fieldAddr rfl rfl fd57_0 rfl) ?_
            refine AQuiet.cons 285 rfl rfl rfl (OpJ.fieldAddr rfl rfl fd25_1 rfl) ?_
            refine AQuiet.cons 286 rfl rfl rfl (OpJ.load rfl rfl ty3 rfl) ?_
            refine AQuiet.cons 287 rfl rfl rfl (OpJ.move rfl rfl) ?_
            refine AQuiet.cons 288 rfl rfl rfl (OpJ.move rfl rfl) ?_
            refine AQuiet.cons 289 rfl rfl rfl (OpJ.indexEl rfl rfl rfl sl22 el22 rfl (fun _ => rfl) (by decide) hkk) ?_
            refine AQuiet.cons 290 rfl rfl rfl (OpJ.fieldAddr rfl rfl fd57_0 rfl) ?_
            refine AQuiet.cons 291 rfl rfl rfl (OpJ.fieldAddr rfl rfl fd25_0 rfl) ?_
            refine AQuiet.cons 292 rfl rfl rfl (OpJ.load rfl rfl ty3 rfl) ?_
            refine AQuiet.cons 293 rfl rfl rfl (OpJ.move rfl rfl) ?_
            refine AQuiet.cons 294 rfl rfl rfl (OpJ.convInt rfl rfl (by rw [un5]; rfl) un3 (i64ok ?_)) ?_
            · omega
            refine AQuiet.cons 295 rfl rfl rfl (OpJ.rem (m := ((yb % 9 : Nat) : Int)) rfl rfl rfl ?_ ?_) ?_
            · decide
            · exact tmodN _ _
            refine AQuiet.cons 296 rfl rfl rfl (OpJ.add rfl rfl rfl (i64ok ?_)) ?_
            · omega
            refine AQuiet.cons 297 rfl rfl rfl (OpJ.min2 rfl rfl rfl) ?_
            refine AQuiet.cons 298 rfl rfl rfl (OpJ.indexRow rfl rfl rfl sl22 el22 (by omega)) ?_
            refine AQuiet.cons 299 rfl rfl rfl (OpJ.fieldAddr rfl rfl fd57_0 rfl) ?_
            refine AQuiet.cons 300 rfl rfl rfl (OpJ.fieldAddr rfl rfl fd25_0 rfl) ?_
            refine AQuiet.nil ?_
            refine AList.c0 rfl rfl (OpJ.storeRow (f := Sk.cells) (c := 6) (k := (tu % l.length)) (j := 0) (xs := l) (z := (le1 (l[tu % l.length]'hkk) yb)) (ws := [_]) rfl rfl rfl rfl rfl ty3 rfl rfl rfl (by omega) (fun _ => rfl) hkk (Nat.le_of_ble_eq_true rfl) rfl) ?_
            refine AList.nil ?_
            refine AWp.seq ?_
            refine AWp.regionDraw 22 mixed (by kernel_rfl) (by decide) ?_
            refine AQuiet.cons 301 rfl rfl rfl (OpJ.move rfl rfl) ?_
            refine AQuiet.cons 302 rfl rfl rfl (OpJ.move rfl rfl) ?_
            refine AQuiet.cons 303 rfl rfl rfl (OpJ.move rfl rfl) ?_
            refine AQuiet.cons 304 rfl rfl rfl (OpJ.move rfl rfl) ?_
            refine AQuiet.cons 305 rfl rfl rfl (OpJ.indexEl rfl rfl rfl sl22 el22 rfl (fun _ => rfl) (by decide) hkk) ?_
            refine AQuiet.cons 306 rfl rfl rfl (OpJ.fieldAddr rfl rfl fd57_1 rfl) ?_
            refine AQuiet.cons 307 rfl rfl rfl (OpJ.fieldAddr rfl rfl fd25_0 rfl) ?_
            refine AQuiet.cons 308 rfl rfl rfl (OpJ.load rfl rfl ty3 rfl) ?_
            refine AQuiet.cons 309 rfl rfl rfl (OpJ.move rfl rfl) ?_
            refine AQuiet.cons 310 rfl rfl rfl (OpJ.move rfl rfl) ?_
            refine AQuiet.cons 311 rfl rfl rfl (OpJ.indexEl rfl rfl rfl sl22 el22 rfl (fun _ => rfl) (by decide) hkk) ?_
            refine AQuiet.cons 312 rfl rfl rfl (OpJ.fieldAddr rfl rfl fd57_1 rfl) ?_
            refine AQuiet.cons 313 rfl rfl rfl (OpJ.fieldAddr rfl rfl fd25_1 rfl) ?_
            refine AQuiet.cons 314 rfl rfl rfl (OpJ.load rfl rfl ty3 rfl) ?_
            refine AQuiet.cons 315 rfl rfl rfl (OpJ.move rfl rfl) ?_
            refine AQuiet.cons 316 rfl rfl rfl (OpJ.convInt rfl rfl (by rw [un5]; rfl) un3 (i64ok ?_)) ?_
            · omega
            refine AQuiet.cons 317 rfl rfl rfl (OpJ.rem (m := ((yb % 7 : Nat) : Int)) rfl rfl rfl ?_ ?_) ?_
            · decide
            · exact tmodN _ _
            refine AQuiet.cons 318 rfl rfl rfl (OpJ.sub_ rfl rfl rfl (i64ok ?_)) ?_
            · omega
            refine AQuiet.cons 319 rfl rfl rfl (OpJ.max2 rfl rfl rfl) ?_
            refine AQuiet.cons 320 rfl rfl rfl (OpJ.indexRow rfl rfl rfl sl22 el22 (by omega)) ?_
            refine AQuiet.cons 321 rfl rfl rfl (OpJ.fieldAddr rfl rfl fd57_1 rfl) ?_
            refine AQuiet.cons 322 rfl rfl rfl (OpJ.fieldAddr rfl rfl fd25_1 rfl) ?_
            refine AQuiet.nil ?_
            refine AList.c0 rfl rfl (OpJ.storeRow (f := Sk.cells) (c := 6) (k := (tu % l.length)) (j := 3) (xs := (l.set (tu % l.length) (le1 (l[tu % l.length]'hkk) yb))) (z := (le2 (le1 (l[tu % l.length]'hkk) yb) yb)) (ws := [_]) rfl rfl rfl rfl rfl ty3 rfl rfl rfl (by omega) (fun _ => rfl) (by rw [List.length_set]; exact hkk) (Nat.le_of_ble_eq_true rfl) (by rw [List.getElem_set_self]; rfl)) ?_
            refine AList.nil ?_
            refine AWp.seq ?_
            refine AWp.regionDraw 22 mixed (by kernel_rfl) (by decide) ?_
            refine AQuiet.cons 323 rfl rfl rfl (OpJ.move rfl rfl) ?_
            refine AQuiet.cons 324 rfl rfl rfl (OpJ.move rfl rfl) ?_
            refine AQuiet.cons 325 rfl rfl rfl (OpJ.move rfl rfl) ?_
            refine AQuiet.cons 326 rfl rfl rfl (OpJ.move rfl rfl) ?_
            refine AQuiet.cons 327 rfl rfl rfl (OpJ.indexEl rfl rfl rfl sl22 el22 rfl (fun _ => rfl) (by decide) hkk) ?_
            refine AQuiet.cons 328 rfl rfl rfl (OpJ.fieldAddr rfl rfl fd57_2 rfl) ?_
            refine AQuiet.cons 329 rfl rfl rfl (OpJ.fieldAddr rfl rfl fd25_1 rfl) ?_
            refine AQuiet.cons 330 rfl rfl rfl (OpJ.load rfl rfl ty3 rfl) ?_
            refine AQuiet.cons 331 rfl rfl rfl (OpJ.move rfl rfl) ?_
            refine AQuiet.cons 332 rfl rfl rfl (OpJ.move rfl rfl) ?_
            refine AQuiet.cons 333 rfl rfl rfl (OpJ.indexEl rfl rfl rfl sl22 el22 rfl (fun _ => rfl) (by decide) hkk) ?_
            refine AQuiet.cons 334 rfl rfl rfl (OpJ.fieldAddr rfl rfl fd57_2 rfl) ?_
            refine AQuiet.cons 335 rfl rfl rfl (OpJ.fieldAddr rfl rfl fd25_0 rfl) ?_
            refine AQuiet.cons 336 rfl rfl rfl (OpJ.load rfl rfl ty3 rfl) ?_
            refine AQuiet.cons 337 rfl rfl rfl (OpJ.move rfl rfl) ?_
            refine AQuiet.cons 338 rfl rfl rfl (OpJ.convInt rfl rfl (by rw [un5]; rfl) un3 (i64ok ?_)) ?_
            · omega
            refine AQuiet.cons 339 rfl rfl rfl (OpJ.rem (m := ((yb % 5 : Nat) : Int)) rfl rfl rfl ?_ ?_) ?_
            · decide
            · exact tmodN _ _
            refine AQuiet.cons 340 rfl rfl rfl (OpJ.add rfl rfl rfl (i64ok ?_)) ?_
            · omega
            refine AQuiet.cons 341 rfl rfl rfl (OpJ.min2 rfl rfl rfl) ?_
            refine AQuiet.cons 342 rfl rfl rfl (OpJ.indexRow rfl rfl rfl sl22 el22 (by omega)) ?_
            refine AQuiet.cons 343 rfl rfl rfl (OpJ.fieldAddr rfl rfl fd57_2 rfl) ?_
            refine AQuiet.cons 344 rfl rfl rfl (OpJ.fieldAddr rfl rfl fd25_0 rfl) ?_
            refine AQuiet.nil ?_
            refine AList.c0 rfl rfl (OpJ.storeRow (f := Sk.cells) (c := 6) (k := (tu % l.length)) (j := 4) (xs := ((l.set (tu % l.length) (le1 (l[tu % l.length]'hkk) yb)).set (tu % l.length) (le2 (le1 (l[tu % l.length]'hkk) yb) yb))) (z := (le3 (le2 (le1 (l[tu % l.length]'hkk) yb) yb) yb)) (ws := [_]) rfl rfl rfl rfl rfl ty3 rfl rfl rfl (by omega) (fun _ => rfl) (by rw [List.length_set, List.length_set]; exact hkk) (Nat.le_of_ble_eq_true rfl) (by rw [List.getElem_set_self]; rfl)) ?_
            refine AList.nil ?_
            refine AWp.seq ?_
            refine AWp.freeze 3 rfl (allP_map _) ?_
            refine AWp.norm [0, 1, 2] [(0, .p (sacksV l)), (1, .p (takesV b)), (3, .p (.int .u8 (tu : Int))), (4, .p (.int .u8 (yb : Int))), (7, .p (.ip [.int .i64 w.lo, .int .i64 w.hi] 0)), (11, .ptr 0 0), (12, .p (.int .i64 (okE l b))), (13, .ptr 1 0), (14, .p (.int .i64 (okE l b))), (15, .ptr 2 0), (16, .p (.int .i64 (waE l b w))), (35, .p (.is ((((l.set (tu % l.length) (le1 (l[tu % l.length]'hkk) yb)).set (tu % l.length) (le2 (le1 (l[tu % l.length]'hkk) yb) yb)).set (tu % l.length) (le3 (le2 (le1 (l[tu % l.length]'hkk) yb) yb) yb)).flatMap Sk.cells) (0 + l.length)))] [.cells [.p (.int .i64 (wL l b 0)), .p (.int .i64 (wH l b 0)), .p (.int .i64 (wL l b 1)), .p (.int .i64 (wH l b 1)), .p (.int .i64 (wL l b 2)), .p (.int .i64 (wH l b 2)), .p (.int .i64 (wL l b 3)), .p (.int .i64 (wH l b 3)), .p (.int .i64 (wL l b 4)), .p (.int .i64 (wH l b 4))] 29, .cells [.p (.int .i64 (shL l b)), .p (.int .i64 (shH l b))] 25, .cells [.p (.int .i64 (waL l b w)), .p (.int .i64 (waH l b w))] 25] rfl (by repeat (first | exact Sub.nil | refine Sub.cons rfl ?_)) rfl ?_
            have hLess := le_less hA hkk yb
            generalize (((l.set (tu % l.length) (le1 (l[tu % l.length]'hkk) yb)).set (tu % l.length) (le2 (le1 (l[tu % l.length]'hkk) yb) yb)).set (tu % l.length) (le3 (le2 (le1 (l[tu % l.length]'hkk) yb) yb) yb)) = ll at hLess ⊢
            have hLn : ll.length = 0 + l.length := by rw [hLess.len]; omega
            have hL : ll.length ≤ bigN := by rw [hLess.len]; exact hl
            have hok3 : okE ll b = 0 := by unfold okE; rw [if_pos (hLess.v hv)]
            have p0 := hLess.parts hv 0
            have p1 := hLess.parts hv 1
            have p2 := hLess.parts hv 2
            have p3 := hLess.parts hv 3
            have p4 := hLess.parts hv 4
            have ps := hLess.share hv
            refine AWp.region ?_
            refine AList.c 346 rfl rfl rfl (OpJ.move rfl rfl) ?_
            refine AList.c 347 rfl rfl rfl (OpJ.move rfl rfl) ?_
            refine AList.c 348 rfl rfl rfl (OpJ.callP (weigh_y ll b _ hL hb hLn) rfl rfl rfl rfl rf11) ?_
            refine AList.c 345 rfl rfl rfl (OpJ.move rfl rfl) ?_
            refine AList.c 349 rfl rfl rfl (OpJ.extract rfl rfl rfl) ?_
            refine AList.c 350 rfl rfl rfl (OpJ.extract rfl rfl rfl) ?_
            refine AList.c 37 rfl rfl rfl (OpJ.allocOwn rfl zr29 rfl) ?_
            refine AList.c0 rfl rfl (OpJ.store rfl rfl rfl rfl rfl ty29 rfl rfl) ?_
            refine AList.c 38 rfl rfl rfl (OpJ.assign rfl rfl) ?_
            refine AList.nil ?_
            refine AWp.seq ?_
            refine AWp.region ?_
            refine AList.c 352 rfl rfl rfl (OpJ.move rfl rfl) ?_
            refine AList.c 353 rfl rfl rfl (OpJ.move rfl rfl) ?_
            refine AList.c 354 rfl rfl rfl (OpJ.callP (share_y ll b _ hL hb hLn) rfl rfl rfl rfl rf13) ?_
            refine AList.c 351 rfl rfl rfl (OpJ.move rfl rfl) ?_
            refine AList.c 355 rfl rfl rfl (OpJ.extract rfl rfl rfl) ?_
            refine AList.c 356 rfl rfl rfl (OpJ.extract rfl rfl rfl) ?_
            refine AList.c 39 rfl rfl rfl (OpJ.allocOwn rfl zr25 rfl) ?_
            refine AList.c0 rfl rfl (OpJ.store rfl rfl rfl rfl rfl ty25 rfl rfl) ?_
            refine AList.c 40 rfl rfl rfl (OpJ.assign rfl rfl) ?_
            refine AList.nil ?_
            refine AWp.seq ?_
            refine AWp.region ?_
            refine AList.c 358 rfl rfl rfl (OpJ.move rfl rfl) ?_
            refine AList.c 359 rfl rfl rfl (OpJ.move rfl rfl) ?_
            refine AList.c 360 rfl rfl rfl (OpJ.load rfl rfl ty25 rfl) ?_
            refine AList.c 361 rfl rfl rfl (OpJ.callP (water_y ll b _ w hL hb hLn) rfl rfl rfl rfl rf15) ?_
            refine AList.c 357 rfl rfl rfl (OpJ.move rfl rfl) ?_
            refine AList.c 362 rfl rfl rfl (OpJ.extract rfl rfl rfl) ?_
            refine AList.c 363 rfl rfl rfl (OpJ.extract rfl rfl rfl) ?_
            refine AList.c 41 rfl rfl rfl (OpJ.allocOwn rfl zr25 rfl) ?_
            refine AList.c0 rfl rfl (OpJ.store rfl rfl rfl rfl rfl ty25 rfl rfl) ?_
            refine AList.c 42 rfl rfl rfl (OpJ.assign rfl rfl) ?_
            refine AList.nil ?_
            refine AWp.seq ?_
            refine AWp.region ?_
            refine AList.c 43 rfl rfl rfl (OpJ.assign rfl rfl) ?_
            refine AList.nil ?_
            refine AWp.seq ?_
            refine AWp.seq ?_
            refine AWp.region ?_
            refine AList.c 364 rfl rfl rfl (OpJ.move rfl rfl) ?_
            refine AList.c 365 rfl rfl rfl (OpJ.neq rfl rfl rfl) ?_
            refine AList.c 366 rfl rfl rfl (OpJ.move rfl rfl) ?_
            refine AList.g 367 366 rfl rfl rfl rfl rfl rfl rfl [(40, _)] (fun h => And.intro (.inl rfl) (trivial)) (fun h => (OpJ.move rfl rfl)) ?_
            refine AList.g 368 366 rfl rfl rfl rfl rfl rfl rfl [(367, _)] (fun h => And.intro (.inr ⟨_, rfl, h⟩) (trivial)) (fun h => (OpJ.neq rfl rfl rfl)) ?_
            refine AList.c 369 rfl rfl rfl (OpJ.or_ rfl rfl rfl ?_) ?_
            · first | (intro h; rw [h]; rfl) | (intro h; simp_all)
            refine AList.c 370 rfl rfl rfl (OpJ.move rfl rfl) ?_
            refine AList.g 371 370 rfl rfl rfl rfl rfl rfl rfl [(43, _)] (fun h => And.intro (.inl rfl) (trivial)) (fun h => (OpJ.move rfl rfl)) ?_
            refine AList.g 372 370 rfl rfl rfl rfl rfl rfl rfl [(37, _)] (fun h => And.intro (.inl rfl) (trivial)) (fun h => (OpJ.fieldAddr rfl rfl fd29_0 rfl)) ?_
            refine AList.g 373 370 rfl rfl rfl rfl rfl rfl rfl [(372, _)] (fun h => And.intro (.inr ⟨_, rfl, h⟩) (trivial)) (fun h => (OpJ.load rfl rfl ty25 rfl)) ?_
            refine AList.g 374 370 rfl rfl rfl rfl rfl rfl rfl [(11, _)] (fun h => And.intro (.inl rfl) (trivial)) (fun h => (OpJ.fieldAddr rfl rfl fd29_0 rfl)) ?_
            refine AList.g 375 370 rfl rfl rfl rfl rfl rfl rfl [(374, _)] (fun h => And.intro (.inr ⟨_, rfl, h⟩) (trivial)) (fun h => (OpJ.load rfl rfl ty25 rfl)) ?_
            refine AList.g 376 370 rfl rfl rfl rfl rfl rfl rfl [(371, _), (373, _), (375, _)] (fun h => And.intro (.inr ⟨_, rfl, h⟩) (And.intro (.inr ⟨_, rfl, h⟩) (And.intro (.inr ⟨_, rfl, h⟩) (trivial)))) (fun h => (OpJ.callF (order1_F _ _ _ _) rfl rfl rfl)) ?_
            refine AList.g 377 370 rfl rfl rfl rfl rfl rfl rfl [(376, _)] (fun h => And.intro (.inr ⟨_, rfl, h⟩) (trivial)) (fun h => (OpJ.not_ rfl rfl)) ?_
            refine AList.c 378 rfl rfl rfl (OpJ.or_ rfl rfl rfl ?_) ?_
            · first | (intro h; rw [h]; rfl) | (intro h; simp_all)
            refine AList.c 379 rfl rfl rfl (OpJ.move rfl rfl) ?_
            refine AList.g 380 379 rfl rfl rfl rfl rfl rfl rfl [(43, _)] (fun h => And.intro (.inl rfl) (trivial)) (fun h => (OpJ.move rfl rfl)) ?_
            refine AList.g 381 379 rfl rfl rfl rfl rfl rfl rfl [(37, _)] (fun h => And.intro (.inl rfl) (trivial)) (fun h => (OpJ.fieldAddr rfl rfl fd29_1 rfl)) ?_
            refine AList.g 382 379 rfl rfl rfl rfl rfl rfl rfl [(381, _)] (fun h => And.intro (.inr ⟨_, rfl, h⟩) (trivial)) (fun h => (OpJ.load rfl rfl ty25 rfl)) ?_
            refine AList.g 383 379 rfl rfl rfl rfl rfl rfl rfl [(11, _)] (fun h => And.intro (.inl rfl) (trivial)) (fun h => (OpJ.fieldAddr rfl rfl fd29_1 rfl)) ?_
            refine AList.g 384 379 rfl rfl rfl rfl rfl rfl rfl [(383, _)] (fun h => And.intro (.inr ⟨_, rfl, h⟩) (trivial)) (fun h => (OpJ.load rfl rfl ty25 rfl)) ?_
            refine AList.g 385 379 rfl rfl rfl rfl rfl rfl rfl [(380, _), (382, _), (384, _)] (fun h => And.intro (.inr ⟨_, rfl, h⟩) (And.intro (.inr ⟨_, rfl, h⟩) (And.intro (.inr ⟨_, rfl, h⟩) (trivial)))) (fun h => (OpJ.callF (order1_F _ _ _ _) rfl rfl rfl)) ?_
            refine AList.g 386 379 rfl rfl rfl rfl rfl rfl rfl [(385, _)] (fun h => And.intro (.inr ⟨_, rfl, h⟩) (trivial)) (fun h => (OpJ.not_ rfl rfl)) ?_
            refine AList.c 387 rfl rfl rfl (OpJ.or_ rfl rfl rfl ?_) ?_
            · first | (intro h; rw [h]; rfl) | (intro h; simp_all)
            refine AList.c 388 rfl rfl rfl (OpJ.move rfl rfl) ?_
            refine AList.g 389 388 rfl rfl rfl rfl rfl rfl rfl [(43, _)] (fun h => And.intro (.inl rfl) (trivial)) (fun h => (OpJ.move rfl rfl)) ?_
            refine AList.g 390 388 rfl rfl rfl rfl rfl rfl rfl [(37, _)] (fun h => And.intro (.inl rfl) (trivial)) (fun h => (OpJ.fieldAddr rfl rfl fd29_2 rfl)) ?_
            refine AList.g 391 388 rfl rfl rfl rfl rfl rfl rfl [(390, _)] (fun h => And.intro (.inr ⟨_, rfl, h⟩) (trivial)) (fun h => (OpJ.load rfl rfl ty25 rfl)) ?_
            refine AList.g 392 388 rfl rfl rfl rfl rfl rfl rfl [(11, _)] (fun h => And.intro (.inl rfl) (trivial)) (fun h => (OpJ.fieldAddr rfl rfl fd29_2 rfl)) ?_
            refine AList.g 393 388 rfl rfl rfl rfl rfl rfl rfl [(392, _)] (fun h => And.intro (.inr ⟨_, rfl, h⟩) (trivial)) (fun h => (OpJ.load rfl rfl ty25 rfl)) ?_
            refine AList.g 394 388 rfl rfl rfl rfl rfl rfl rfl [(389, _), (391, _), (393, _)] (fun h => And.intro (.inr ⟨_, rfl, h⟩) (And.intro (.inr ⟨_, rfl, h⟩) (And.intro (.inr ⟨_, rfl, h⟩) (trivial)))) (fun h => (OpJ.callF (order1_F _ _ _ _) rfl rfl rfl)) ?_
            refine AList.g 395 388 rfl rfl rfl rfl rfl rfl rfl [(394, _)] (fun h => And.intro (.inr ⟨_, rfl, h⟩) (trivial)) (fun h => (OpJ.not_ rfl rfl)) ?_
            refine AList.c 396 rfl rfl rfl (OpJ.or_ rfl rfl rfl ?_) ?_
            · first | (intro h; rw [h]; rfl) | (intro h; simp_all)
            refine AList.c 397 rfl rfl rfl (OpJ.move rfl rfl) ?_
            refine AList.g 398 397 rfl rfl rfl rfl rfl rfl rfl [(43, _)] (fun h => And.intro (.inl rfl) (trivial)) (fun h => (OpJ.move rfl rfl)) ?_
            refine AList.g 399 397 rfl rfl rfl rfl rfl rfl rfl [(37, _)] (fun h => And.intro (.inl rfl) (trivial)) (fun h => (OpJ.fieldAddr rfl rfl fd29_3 rfl)) ?_
            refine AList.g 400 397 rfl rfl rfl rfl rfl rfl rfl [(399, _)] (fun h => And.intro (.inr ⟨_, rfl, h⟩) (trivial)) (fun h => (OpJ.load rfl rfl ty25 rfl)) ?_
            refine AList.g 401 397 rfl rfl rfl rfl rfl rfl rfl [(11, _)] (fun h => And.intro (.inl rfl) (trivial)) (fun h => (OpJ.fieldAddr rfl rfl fd29_3 rfl)) ?_
            refine AList.g 402 397 rfl rfl rfl rfl rfl rfl rfl [(401, _)] (fun h => And.intro (.inr ⟨_, rfl, h⟩) (trivial)) (fun h => (OpJ.load rfl rfl ty25 rfl)) ?_
            refine AList.g 403 397 rfl rfl rfl rfl rfl rfl rfl [(398, _), (400, _), (402, _)] (fun h => And.intro (.inr ⟨_, rfl, h⟩) (And.intro (.inr ⟨_, rfl, h⟩) (And.intro (.inr ⟨_, rfl, h⟩) (trivial)))) (fun h => (OpJ.callF (order1_F _ _ _ _) rfl rfl rfl)) ?_
            refine AList.g 404 397 rfl rfl rfl rfl rfl rfl rfl [(403, _)] (fun h => And.intro (.inr ⟨_, rfl, h⟩) (trivial)) (fun h => (OpJ.not_ rfl rfl)) ?_
            refine AList.c 405 rfl rfl rfl (OpJ.or_ rfl rfl rfl ?_) ?_
            · first | (intro h; rw [h]; rfl) | (intro h; simp_all)
            refine AList.c 406 rfl rfl rfl (OpJ.move rfl rfl) ?_
            refine AList.g 407 406 rfl rfl rfl rfl rfl rfl rfl [(43, _)] (fun h => And.intro (.inl rfl) (trivial)) (fun h => (OpJ.move rfl rfl)) ?_
            refine AList.g 408 406 rfl rfl rfl rfl rfl rfl rfl [(37, _)] (fun h => And.intro (.inl rfl) (trivial)) (fun h => (OpJ.fieldAddr rfl rfl fd29_4 rfl)) ?_
            refine AList.g 409 406 rfl rfl rfl rfl rfl rfl rfl [(408, _)] (fun h => And.intro (.inr ⟨_, rfl, h⟩) (trivial)) (fun h => (OpJ.load rfl rfl ty25 rfl)) ?_
            refine AList.g 410 406 rfl rfl rfl rfl rfl rfl rfl [(11, _)] (fun h => And.intro (.inl rfl) (trivial)) (fun h => (OpJ.fieldAddr rfl rfl fd29_4 rfl)) ?_
            refine AList.g 411 406 rfl rfl rfl rfl rfl rfl rfl [(410, _)] (fun h => And.intro (.inr ⟨_, rfl, h⟩) (trivial)) (fun h => (OpJ.load rfl rfl ty25 rfl)) ?_
            refine AList.g 412 406 rfl rfl rfl rfl rfl rfl rfl [(407, _), (409, _), (411, _)] (fun h => And.intro (.inr ⟨_, rfl, h⟩) (And.intro (.inr ⟨_, rfl, h⟩) (And.intro (.inr ⟨_, rfl, h⟩) (trivial)))) (fun h => (OpJ.callF (order1_F _ _ _ _) rfl rfl rfl)) ?_
            refine AList.g 413 406 rfl rfl rfl rfl rfl rfl rfl [(412, _)] (fun h => And.intro (.inr ⟨_, rfl, h⟩) (trivial)) (fun h => (OpJ.not_ rfl rfl)) ?_
            refine AList.c 414 rfl rfl rfl (OpJ.or_ rfl rfl rfl ?_) ?_
            · first | (intro h; rw [h]; rfl) | (intro h; simp_all)
            refine AList.c 415 rfl rfl rfl (OpJ.move rfl rfl) ?_
            refine AList.g 416 415 rfl rfl rfl rfl rfl rfl rfl [(43, _)] (fun h => And.intro (.inl rfl) (trivial)) (fun h => (OpJ.move rfl rfl)) ?_
            refine AList.g 417 415 rfl rfl rfl rfl rfl rfl rfl [(39, _)] (fun h => And.intro (.inl rfl) (trivial)) (fun h => (OpJ.load rfl rfl ty25 rfl)) ?_
            refine AList.g 418 415 rfl rfl rfl rfl rfl rfl rfl [(13, _)] (fun h => And.intro (.inl rfl) (trivial)) (fun h => (OpJ.load rfl rfl ty25 rfl)) ?_
            refine AList.g 419 415 rfl rfl rfl rfl rfl rfl rfl [(416, _), (417, _), (418, _)] (fun h => And.intro (.inr ⟨_, rfl, h⟩) (And.intro (.inr ⟨_, rfl, h⟩) (And.intro (.inr ⟨_, rfl, h⟩) (trivial)))) (fun h => (OpJ.callF (order1_F _ _ _ _) rfl rfl rfl)) ?_
            refine AList.g 420 415 rfl rfl rfl rfl rfl rfl rfl [(419, _)] (fun h => And.intro (.inr ⟨_, rfl, h⟩) (trivial)) (fun h => (OpJ.not_ rfl rfl)) ?_
            refine AList.c 421 rfl rfl rfl (OpJ.or_ rfl rfl rfl ?_) ?_
            · first | (intro h; rw [h]; rfl) | (intro h; simp_all)
            refine AList.nil ?_
            refine AWp.cond _ rfl (fun hc11 => ?_) (fun hc11 => ?_)
            · skip
              exfalso
              rw [hok3] at hc11
              simp [p0, p1, p2, p3, p4, ps] at hc11
            · skip
              refine AWp.skip ?_
              refine AWp.seq ?_
              refine AWp.region ?_
              refine AList.c 422 rfl rfl rfl (OpJ.move rfl rfl) ?_
              refine AList.c 423 rfl rfl rfl (OpJ.neq rfl rfl rfl) ?_
              refine AList.c 424 rfl rfl rfl (OpJ.move rfl rfl) ?_
              refine AList.g 425 424 rfl rfl rfl rfl rfl rfl rfl [(42, _)] (fun h => And.intro (.inl rfl) (trivial)) (fun h => (OpJ.move rfl rfl)) ?_
              refine AList.g 426 424 rfl rfl rfl rfl rfl rfl rfl [(425, _)] (fun h => And.intro (.inr ⟨_, rfl, h⟩) (trivial)) (fun h => (OpJ.eql rfl rfl rfl)) ?_
              refine AList.g 427 424 rfl rfl rfl rfl rfl rfl rfl [(426, _)] (fun h => And.intro (.inr ⟨_, rfl, h⟩) (trivial)) (fun h => (OpJ.move rfl rfl)) ?_
              refine AList.g 428 427 rfl rfl rfl rfl rfl rfl rfl [(43, _)] (fun h => And.intro (.inl rfl) (trivial)) (fun h => (OpJ.move rfl rfl)) ?_
              refine AList.g 429 427 rfl rfl rfl rfl rfl rfl rfl [(15, _)] (fun h => And.intro (.inl rfl) (trivial)) (fun h => (OpJ.load rfl rfl ty25 rfl)) ?_
              refine AList.g 430 427 rfl rfl rfl rfl rfl rfl rfl [(41, _)] (fun h => And.intro (.inl rfl) (trivial)) (fun h => (OpJ.load rfl rfl ty25 rfl)) ?_
              refine AList.g 431 427 rfl rfl rfl rfl rfl rfl rfl [(428, _), (429, _), (430, _)] (fun h => And.intro (.inr ⟨_, rfl, h⟩) (And.intro (.inr ⟨_, rfl, h⟩) (And.intro (.inr ⟨_, rfl, h⟩) (trivial)))) (fun h => (OpJ.callF (order1_F _ _ _ _) rfl rfl rfl)) ?_
              refine AList.g 432 424 rfl rfl rfl rfl rfl rfl rfl [(427, _), (431, _)] (fun h => And.intro (.inr ⟨_, rfl, h⟩) (And.intro (.inl rfl) (trivial))) (fun h => (OpJ.and_ rfl rfl rfl ?_)) ?_
              · first | (intro h; rw [h]; rfl) | (intro h; simp_all)
              refine AList.c 433 rfl rfl rfl (OpJ.or_ rfl rfl rfl ?_) ?_
              · first | (intro h; rw [h]; rfl) | (intro h; simp_all)
              refine AList.c 434 rfl rfl rfl (OpJ.move rfl rfl) ?_
              refine AList.g 435 434 rfl rfl rfl rfl rfl rfl rfl [] (fun h => trivial) (fun h => (OpJ.callP (awake_ok) rfl rfl rfl rfl rf10)) ?_
              refine AList.c 436 rfl rfl rfl (OpJ.and_ rfl rfl rfl ?_) ?_
              · first | (intro h; rw [h]; rfl) | (intro h; simp_all)
              refine AList.c 10 rfl rfl rfl (OpJ.assign rfl rfl) ?_
              refine AList.nil ?_
              refine AWp.ret ?_
              refine Fin.oneE rfl rfl ?_
              by_cases hE : waE l b w = 0
              · have hw := hLess.water hv hE
                simp [hw]
              · simp [hE]
theorem u8_of {x : List PV} (h : TyL [.leaf (.int .u8)] x) : ∃ n : Nat, x = [.int .u8 (n : Int)] ∧ n ≤ 255 := by
  cases h with
  | cons _ _ y ys h1 h2 =>
    cases h2
    cases h1 with
    | int _ n hw =>
      simp only [Lit.wf, Bool.and_eq_true, decide_eq_true_eq] at hw
      have e1 : IntKind.u8.min = 0 := by decide
      have e2 : IntKind.u8.max = 255 := by decide
      refine ⟨n.toNat, ?_, by omega⟩
      rw [show ((n.toNat : Nat) : Int) = n by omega]
theorem sackOrder_law {x0 x1 x2 x3 x4 : List PV} (h0 : TyL [.sl [.leaf (.int .i64), .leaf (.int .i64), .leaf (.int .i64), .leaf (.int .i64), .leaf (.int .i64), .leaf (.int .i64)]] x0) (h1 : TyL [.sl [.leaf (.int .i64), .leaf (.int .i64), .leaf (.int .i64)]] x1) (h2 : TyL [.leaf (.int .i64), .leaf (.int .i64)] x2) (h3 : TyL [.leaf (.int .u8)] x3) (h4 : TyL [.leaf (.int .u8)] x4) : Pure Try.prog 7 [argP false x0, argP false x1, argP true x2, argP false x3, argP false x4] (.bool true) := by
  obtain ⟨l, rfl, hl⟩ := sl_of (fun _ => sk_of) h0
  obtain ⟨b, rfl, hb⟩ := sl_of (fun _ => tk_of) h1
  obtain ⟨w, rfl⟩ := two_of h2
  obtain ⟨tu, rfl, htu⟩ := u8_of h3
  obtain ⟨yb, rfl, hyb⟩ := u8_of h4
  exact SackOrder_ok l b w tu yb htu hyb hl hb
end Go.Proofs.Ytmcejcidbekpkaa
