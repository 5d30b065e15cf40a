/-
  Sums over a batch, in whatever order.
-/
import Derived.Test.YtmcejcidbekpkaaSkFacts
import Derived.Test.YtmcejcidbekpkaaSkD
import Derived.Test.YtmcejcidbekpkaaSk1
import Derived.Test.YtmcejcidbekpkaaSk6
set_option linter.unusedVariables false
set_option maxRecDepth 100000
set_option maxHeartbeats 4000000
set_option linter.unusedSimpArgs false
namespace Go.Proofs.Ytmcejcidbekpkaa
open Go.AF
theorem sum_ok (ms : List (Int × (Sk × Sp))) (fn : Fn) (fi ca : List PV) (F : Sk → Nat → Int) (hw : ∀ m ∈ ms, 0 ≤ m.2.2.lo ∧ m.2.2.lo ≤ m.2.2.hi) (hs : (ms.map hiS).sum ≤ 800000) (hF : ∀ m ∈ ms, ∀ j, j < 8 → -2000000000000 ≤ F m.2.1 j ∧ F m.2.1 j ≤ 2000000000000) (hf : ∀ m ∈ ms, ∀ j, j < 8 → FPure Try.prog (.func fn fi ca) [stateV m.2.1 j] (.int .i64 (F m.2.1 j))) : Pure Try.prog 38 [mapP (PV.int .i64) gpS ms, .func fn fi ca] (.agg [.int .i64 (ms.map (lowS F)).sum, .int .i64 (ms.map (highS F)).sum]) := by
  have hpos : ∀ m ∈ ms, 0 ≤ hiS m := fun m hm => by have := hw m hm; unfold hiS; omega
  refine Pure.start (N := 32) Try.func38 rfl rfl (Nat.le_of_ble_eq_true rfl) ?_
  refine AWp.seq ?_
  refine AWp.region ?_
  refine AList.c 4 rfl rfl rfl (OpJ.allocOwn rfl zr25 rfl) ?_
  refine AList.nil ?_
  refine AWp.seq ?_
  refine AWp.seq ?_
  refine AWp.region ?_
  refine AList.c 9 rfl rfl rfl (OpJ.move rfl rfl) ?_
  refine AList.c 10 rfl rfl rfl (OpJ.rangeMap (enc := PV.int .i64) (gp := gpS) rfl rfl mp65) ?_
  refine AList.nil ?_
  refine AWp.block ?_
  refine AWp.loopH [6, 7, 8, 11, 12, 13, 14, 15, 16, 17, 18, 19, 20, 21, 22, 23, 24, 25, 26, 27, 28, 29, 30] (fun (g : SumG) => []) (fun (g : SumG) => [.cells [.p (.int .i64 (g.d.map (lowS F)).sum), .p (.int .i64 (g.d.map (highS F)).sum)] 25, iterB (PV.int .i64) gpS g.r g.last]) (fun (g : SumG) => SumG.ok ms g) (fun (g : SumG) => g.r.length) ⟨[], ms, none⟩ ⟨(fun f => by simp), (fun _ h => by cases h), fun _ h => h⟩ (To.sub (Sub.chd Sub.nil)) (fun g hg => ?_)
  obtain ⟨d, r, last⟩ := g
  dsimp only
  refine AWp.seq ?_
  refine AWp.region ?_
  refine AList.nextMap 11 rfl rfl rfl rfl rfl rfl ?_ ?_
  · skip
    intro hr
    subst hr
    refine AList.c 12 rfl rfl rfl (OpJ.extract rfl rfl rfl) ?_
    refine AList.nil ?_
    refine AWp.seq ?_
    refine AWp.cond _ rfl (fun hc0 => ?_) (fun hc0 => ?_)
    · skip
      cases hc0
    · skip
      refine AWp.exit ?_
      refine AWp.seq ?_
      refine AWp.region ?_
      refine AList.c 31 rfl rfl rfl (OpJ.load rfl rfl ty25 rfl) ?_
      refine AList.c0 rfl rfl (OpJ.store rfl rfl rfl rfl rfl ty25 rfl rfl) ?_
      refine AList.nil ?_
      refine AWp.ret ?_
      refine Fin.oneE rfl ⟨_, _, _, rfl, ty25, rfl⟩ ?_
      have e1 := hg.1 (lowS F)
      have e2 := hg.1 (highS F)
      simp at e1 e2
      simp [e1, e2]
  · skip
    intro j m hj
    have hjl : j < r.length := (List.getElem?_eq_some_iff.1 hj).1
    have hmem : m ∈ ms := hg.2.2 m (List.mem_of_getElem? hj)
    have hmw := hw m hmem
    have hmh : hiS m ≤ (ms.map hiS).sum := mem_le_sum hpos hmem
    have h9 : m.2.2.hi ≤ 800000 := (by omega : hiS m ≤ 800000)
    have hg2 := SumG.ok_next hg hj
    have s1 := sum_scale (f := lowS F) (g := hiS) (X := 2000000000000) (r := d) (fun x hx => lowS_B (hw x (hg.2.1 x hx)) (hF x (hg.2.1 x hx)))
    have s2 := sum_scale (f := highS F) (g := hiS) (X := 2000000000000) (r := d) (fun x hx => highS_B (hw x (hg.2.1 x hx)) (hF x (hg.2.1 x hx)))
    have s3 := hg2.1 hiS
    dsimp only at s3
    rw [sum_snoc] at s3
    have s4 := sum_nonneg (f := hiS) (r := r.eraseIdx j) (fun x hx => hpos x (hg2.2.2 x hx))
    have s5 := sum_nonneg (f := hiS) (r := d) (fun x hx => hpos x (hg.2.1 x hx))
    have s6 := lowS_B hmw (hF m hmem)
    have s7 := highS_B hmw (hF m hmem)
    have s8 := hpos m hmem
    refine AList.c 12 rfl rfl rfl (OpJ.extract rfl rfl rfl) ?_
    refine AList.nil ?_
    refine AWp.seq ?_
    refine AWp.cond _ rfl (fun hc0 => ?_) (fun hc0 => ?_)
    · skip
      refine AWp.skip ?_
      refine AWp.block ?_
      refine AWp.seq ?_
      refine AWp.region ?_
      refine AList.c 13 rfl rfl rfl (OpJ.entry rfl rfl rfl) ?_
      refine AList.c 14 rfl rfl rfl (OpJ.extract rfl rfl rfl) ?_
      refine AList.c 6 rfl rfl rfl (OpJ.allocOwn rfl zr96 rfl) ?_
      refine AList.c0 rfl rfl (OpJ.store rfl rfl rfl rfl rfl ty96 rfl rfl) ?_
      refine AList.nil ?_
      refine AWp.seq ?_
      refine AWp.region ?_
      refine AList.c 15 rfl rfl rfl (OpJ.load rfl rfl ty96 rfl) ?_
      refine AList.c 16 rfl rfl rfl (OpJ.makeFunc rfl rfl rfl) ?_
      refine AList.c 7 rfl rfl rfl (OpJ.assign rfl rfl) ?_
      refine AList.nil ?_
      refine AWp.seq ?_
      refine AWp.region ?_
      refine AList.c 17 rfl rfl rfl (OpJ.move rfl rfl) ?_
      refine AList.c 18 rfl rfl rfl (OpJ.move rfl rfl) ?_
      refine AList.c 19 rfl rfl rfl (OpJ.callP (adds_ok m.2.1 m.2.2 fn fi ca (F m.2.1) ?_ ?_ ?_) rfl rfl rfl rfl (rf69)) ?_
      · omega
      · exact hF m hmem
      · exact hf m hmem
      refine AList.c 8 rfl rfl rfl (OpJ.allocOwn rfl zr25 rfl) ?_
      refine AList.c0 rfl rfl (OpJ.store rfl rfl rfl rfl rfl ty25 rfl rfl) ?_
      refine AList.nil ?_
      refine AWp.region ?_
      refine AList.c 20 rfl rfl rfl (OpJ.fieldAddr rfl rfl fd25_0 rfl) ?_
      refine AList.c 21 rfl rfl rfl (OpJ.load rfl rfl ty3 rfl) ?_
      refine AList.c 22 rfl rfl rfl (OpJ.fieldAddr rfl rfl fd25_0 rfl) ?_
      refine AList.c 23 rfl rfl rfl (OpJ.load rfl rfl ty3 rfl) ?_
      refine AList.c 24 rfl rfl rfl (OpJ.add rfl rfl rfl (i64ok ?_)) ?_
      · first | (show _ ≤ _ + lowS F m ∧ _ + lowS F m ≤ _; omega) | (show _ ≤ _ + highS F m ∧ _ + highS F m ≤ _; omega)
      refine AList.c 25 rfl rfl rfl (OpJ.fieldAddr rfl rfl fd25_1 rfl) ?_
      refine AList.c 26 rfl rfl rfl (OpJ.load rfl rfl ty3 rfl) ?_
      refine AList.c 27 rfl rfl rfl (OpJ.fieldAddr rfl rfl fd25_1 rfl) ?_
      refine AList.c 28 rfl rfl rfl (OpJ.load rfl rfl ty3 rfl) ?_
      refine AList.c 29 rfl rfl rfl (OpJ.add rfl rfl rfl (i64ok ?_)) ?_
      · first | (show _ ≤ _ + lowS F m ∧ _ + lowS F m ≤ _; omega) | (show _ ≤ _ + highS F m ∧ _ + highS F m ≤ _; omega)
      refine AList.c 30 rfl rfl rfl (OpJ.build rfl bd25 rfl rfl) ?_
      refine AList.c0 rfl rfl (OpJ.store rfl rfl rfl rfl rfl ty25 rfl rfl) ?_
      refine AList.nil ?_
      refine ⟨⟨d ++ [m], r.eraseIdx j, some m⟩, ?_, ?_, ?_⟩
      · exact SumG.ok_next hg hj
      · show (r.eraseIdx j).length < r.length
        rw [List.length_eraseIdx, if_pos hjl]
        omega
      refine To.done [0, 1] rfl (by repeat (first | exact Sub.nil | refine Sub.cons rfl ?_)) ?_
      dsimp only
      rw [sum_snoc, sum_snoc]
      rfl
    · skip
      cases hc0
end Go.Proofs.Ytmcejcidbekpkaa
