/-
  How two sacks are mixed.
-/
import Derived.Test.YtmcejcidbekpkaaSk16
set_option linter.unusedVariables false
set_option maxRecDepth 100000
set_option maxHeartbeats 4000000
set_option linter.unusedSimpArgs false
namespace Go.Proofs.Ytmcejcidbekpkaa
open Go.AF
theorem mix_ok (l : List Sk) (i j t : Int) (w : Sp) (hl : l.length ≤ bigN) : Pure Try.prog 17 [sacksV l, .int .i64 i, .int .i64 j, .int .i64 t, .agg [.int .i64 w.lo, .int .i64 w.hi]] (.tuple (mixR l i j t w)) := by
  refine Pure.start (N := 87) Try.func17 rfl rfl (Nat.le_of_ble_eq_true rfl) ?_
  refine AWp.seq ?_
  refine AWp.region ?_
  refine AList.c 5 rfl rfl rfl (OpJ.boxImm rfl rfl rfl) ?_
  refine AList.c 9 rfl rfl rfl (OpJ.boxImm rfl rfl rfl) ?_
  refine AList.c 10 rfl rfl rfl (OpJ.allocOwn rfl zr25 rfl) ?_
  refine AList.c 11 rfl rfl rfl (OpJ.assign rfl rfl) ?_
  refine AList.nil ?_
  refine AWp.seq ?_
  refine AWp.region ?_
  refine AList.c 17 rfl rfl rfl (OpJ.makeFunc rfl rfl rfl) ?_
  refine AList.c 12 rfl rfl rfl (OpJ.assign rfl rfl) ?_
  refine AList.nil ?_
  refine AWp.seq ?_
  refine AWp.block ?_
  refine AWp.seq ?_
  refine AWp.region ?_
  refine AList.c 19 rfl rfl rfl (OpJ.load rfl rfl ty22 rfl) ?_
  refine AList.c 20 rfl rfl rfl (OpJ.callP (areSacks_ok _ ?_) rfl rfl rfl rfl rf30) ?_
  · assumption
  refine AList.c 21 rfl rfl rfl (OpJ.not_ rfl rfl) ?_
  refine AList.c 18 rfl rfl rfl (OpJ.assign rfl rfl) ?_
  refine AList.nil ?_
  refine AWp.cond _ rfl (fun hc0 => ?_) (fun hc0 => ?_)
  · skip
    have hA : areSacksB l = false := by simp only [Bool.not_eq_true'] at hc0; exact hc0
    refine AWp.seq ?_
    refine AWp.region ?_
    refine AList.c 22 rfl rfl rfl (OpJ.build rfl bd25 rfl rfl) ?_
    refine AList.c0 rfl rfl (OpJ.store rfl rfl rfl rfl rfl ty25 rfl rfl) ?_
    refine AList.c 11 rfl rfl rfl (OpJ.assign rfl rfl) ?_
    refine AList.nil ?_
    refine AWp.ret ?_
    refine Fin.manyE (xs := [.agg [.int .i64 0, .int .i64 0], .int .i64 1]) rfl (⟨_, _, rfl, ⟨_, _, _, rfl, ty25, rfl⟩, ⟨_, _, rfl, rfl, rfl⟩⟩) rfl ?_
    simp [mixR, hA, noSpan]
  · skip
    have hA : areSacksB l = true := by simp only [Bool.not_eq_false'] at hc0; exact hc0
    have okl := okL_of hA
    refine AWp.seq ?_
    refine AWp.region ?_
    refine AList.c 24 rfl rfl rfl (OpJ.move rfl rfl) ?_
    refine AList.c 25 rfl rfl rfl (OpJ.move rfl rfl) ?_
    refine AList.c 26 rfl rfl rfl (OpJ.callF (mix1_F l _ hl) rfl rfl rfl) ?_
    refine AList.c 27 rfl rfl rfl (OpJ.not_ rfl rfl) ?_
    refine AList.c 28 rfl rfl rfl (OpJ.move rfl rfl) ?_
    refine AList.g 29 28 rfl rfl rfl rfl rfl rfl rfl [(12, _)] (fun h => And.intro (.inl rfl) (trivial)) (fun h => (OpJ.move rfl rfl)) ?_
    refine AList.g 30 28 rfl rfl rfl rfl rfl rfl rfl [(2, _)] (fun h => And.intro (.inl rfl) (trivial)) (fun h => (OpJ.move rfl rfl)) ?_
    refine AList.g 31 28 rfl rfl rfl rfl rfl rfl rfl [(29, _), (30, _)] (fun h => And.intro (.inr ⟨_, rfl, h⟩) (And.intro (.inr ⟨_, rfl, h⟩) (trivial))) (fun h => (OpJ.callF (mix1_F l _ hl) rfl rfl rfl)) ?_
    refine AList.g 32 28 rfl rfl rfl rfl rfl rfl rfl [(31, _)] (fun h => And.intro (.inr ⟨_, rfl, h⟩) (trivial)) (fun h => (OpJ.not_ rfl rfl)) ?_
    refine AList.c 33 rfl rfl rfl (OpJ.or_ rfl rfl rfl ?_) ?_
    · intro h; rw [h]; rfl
    refine AList.c 34 rfl rfl rfl (OpJ.move rfl rfl) ?_
    refine AList.g 35 34 rfl rfl rfl rfl rfl rfl rfl [(1, _)] (fun h => And.intro (.inl rfl) (trivial)) (fun h => (OpJ.move rfl rfl)) ?_
    refine AList.g 36 34 rfl rfl rfl rfl rfl rfl rfl [(2, _)] (fun h => And.intro (.inl rfl) (trivial)) (fun h => (OpJ.move rfl rfl)) ?_
    refine AList.g 37 34 rfl rfl rfl rfl rfl rfl rfl [(35, _), (36, _)] (fun h => And.intro (.inr ⟨_, rfl, h⟩) (And.intro (.inr ⟨_, rfl, h⟩) (trivial))) (fun h => (OpJ.eql rfl rfl rfl)) ?_
    refine AList.c 38 rfl rfl rfl (OpJ.or_ rfl rfl rfl ?_) ?_
    · intro h; rw [h]; rfl
    refine AList.c 39 rfl rfl rfl (OpJ.move rfl rfl) ?_
    refine AList.g 40 39 rfl rfl rfl rfl rfl rfl rfl [(3, _)] (fun h => And.intro (.inl rfl) (trivial)) (fun h => (OpJ.move rfl rfl)) ?_
    refine AList.g 41 39 rfl rfl rfl rfl rfl rfl rfl [(40, _)] (fun h => And.intro (.inr ⟨_, rfl, h⟩) (trivial)) (fun h => (OpJ.callP (within_ok _ _ _) rfl rfl rfl rfl rf54)) ?_
    refine AList.g 42 39 rfl rfl rfl rfl rfl rfl rfl [(41, _)] (fun h => And.intro (.inr ⟨_, rfl, h⟩) (trivial)) (fun h => (OpJ.not_ rfl rfl)) ?_
    refine AList.c 43 rfl rfl rfl (OpJ.or_ rfl rfl rfl ?_) ?_
    · intro h; rw [h]; rfl
    refine AList.c 44 rfl rfl rfl (OpJ.move rfl rfl) ?_
    refine AList.g 45 44 rfl rfl rfl rfl rfl rfl rfl [(9, _)] (fun h => And.intro (.inl rfl) (trivial)) (fun h => (OpJ.load rfl rfl ty25 rfl)) ?_
    refine AList.g 46 44 rfl rfl rfl rfl rfl rfl rfl [(45, _)] (fun h => And.intro (.inr ⟨_, rfl, h⟩) (trivial)) (fun h => (OpJ.callP (isSpan_ok _ _ _ _) rfl rfl rfl rfl rf47)) ?_
    refine AList.g 47 44 rfl rfl rfl rfl rfl rfl rfl [(46, _)] (fun h => And.intro (.inr ⟨_, rfl, h⟩) (trivial)) (fun h => (OpJ.not_ rfl rfl)) ?_
    refine AList.c 48 rfl rfl rfl (OpJ.or_ rfl rfl rfl ?_) ?_
    · intro h; rw [h]; rfl
    refine AList.c 23 rfl rfl rfl (OpJ.assign rfl rfl) ?_
    refine AList.nil ?_
    refine AWp.cond _ rfl (fun hc1 => ?_) (fun hc1 => ?_)
    · skip
      have hG : mixGood l i j t w = false := by have := congrArg (!·) hc1; simpa only [mixGood, Sp.ok, Bool.not_or, Bool.not_not, Bool.not_true] using this
      refine AWp.seq ?_
      refine AWp.region ?_
      refine AList.c 49 rfl rfl rfl (OpJ.build rfl bd25 rfl rfl) ?_
      refine AList.c0 rfl rfl (OpJ.store rfl rfl rfl rfl rfl ty25 rfl rfl) ?_
      refine AList.c 11 rfl rfl rfl (OpJ.assign rfl rfl) ?_
      refine AList.nil ?_
      refine AWp.ret ?_
      refine Fin.manyE (xs := [.agg [.int .i64 0, .int .i64 0], .int .i64 2]) rfl (⟨_, _, rfl, ⟨_, _, _, rfl, ty25, rfl⟩, ⟨_, _, rfl, rfl, rfl⟩⟩) rfl ?_
      simp [mixR, hA, hG, noSpan]
    · skip
      have hG : mixGood l i j t w = true := by have := congrArg (!·) hc1; simpa only [mixGood, Sp.ok, Bool.not_or, Bool.not_not, Bool.not_false] using this
      have hgb : (0 ≤ i ∧ i ≤ (l.length : Int) - 1) ∧ (0 ≤ j ∧ j ≤ (l.length : Int) - 1) ∧ i ≠ j ∧ (2 ≤ t ∧ t ≤ 100000) ∧ (0 ≤ w.lo ∧ w.lo ≤ w.hi ∧ w.hi ≤ 1000) := by simp [mixGood, Sp.ok] at hG; omega
      obtain ⟨gi, gj, hne, gt, hw⟩ := hgb
      obtain ⟨tn, rfl⟩ : ∃ n : Nat, t = n := ⟨t.toNat, by omega⟩
      have gi2 : i.toNat < l.length := by omega
      have gj2 : j.toNat < l.length := by omega
      have ks1 := okl.2 l[i.toNat] (List.getElem_mem _)
      have ks2 := okl.2 l[j.toNat] (List.getElem_mem _)
      have ht2 : 2 ≤ tn := by omega
      obtain ⟨r, hr⟩ := mix_cut l[i.toNat] l[j.toNat] w tn ht2
      have hr2 := hr.r_le
      obtain ⟨p, p0, p1, p2⟩ := mix_low hr
      obtain ⟨q, q0, q1, q2⟩ := mix_high ht2 hr
      refine AWp.skip ?_
      refine AWp.seq ?_
      refine AWp.regionDrawA 12 (.cells ((cellsP (.agg [.int .i64 0, .int .i64 0, .int .i64 0, .int .i64 0, .int .i64 0, .int .i64 0, .int .i64 0, .int .i64 0, .int .i64 0, .int .i64 0, .int .i64 0, .int .i64 0, .int .i64 0, .int .i64 0, .int .i64 0])).map .p) 83) mixed (by kernel_rfl) (by decide) ?_
      refine AQuietA.cons 50 rfl rfl rfl (OpJ.load rfl rfl ty22 rfl) (OpJ.load rfl rfl ty22 rfl) ?_
      refine AQuietA.cons 51 rfl rfl rfl (OpJ.move rfl rfl) (OpJ.move rfl rfl) ?_
      refine AQuietA.cons 52 rfl rfl rfl (OpJ.indexElI rfl rfl rfl sl22 el22 rfl (fun _ => rfl) (by decide) ?_ ?_) (OpJ.indexElI rfl rfl rfl sl22 el22 rfl (fun _ => rfl) (by decide) ?_ ?_) ?_
      · omega
      · omega
      · omega
      · omega
      refine AQuietA.cons 53 rfl rfl rfl (OpJ.load rfl rfl ty57 rfl) (OpJ.load rfl rfl ty57 rfl) ?_
      refine AQuietA.cons 54 rfl rfl rfl (OpJ.load rfl rfl ty22 rfl) (OpJ.load rfl rfl ty22 rfl) ?_
      refine AQuietA.cons 55 rfl rfl rfl (OpJ.move rfl rfl) (OpJ.move rfl rfl) ?_
      refine AQuietA.cons 56 rfl rfl rfl (OpJ.indexElI rfl rfl rfl sl22 el22 rfl (fun _ => rfl) (by decide) ?_ ?_) (OpJ.indexElI rfl rfl rfl sl22 el22 rfl (fun _ => rfl) (by decide) ?_ ?_) ?_
      · omega
      · omega
      · omega
      · omega
      refine AQuietA.cons 57 rfl rfl rfl (OpJ.load rfl rfl ty57 rfl) (OpJ.load rfl rfl ty57 rfl) ?_
      refine AQuietA.cons 58 rfl rfl rfl (OpJ.move rfl rfl) (OpJ.move rfl rfl) ?_
      refine AQuietA.cons 59 rfl rfl rfl (OpJ.load rfl rfl ty25 rfl) (OpJ.load rfl rfl ty25 rfl) ?_
      refine AQuietA.cons 60 rfl rfl rfl (OpJ.build rfl bd83 rfl rfl) (OpJ.build rfl bd83 rfl rfl) ?_
      refine AQuietA.lay 13 rfl rfl rfl (OpJ.allocOwn rfl zr83 rfl) ?_
      refine AQuietA.nil ?_
      refine AList.c0 rfl rfl (OpJ.store rfl rfl rfl rfl rfl ty83 rfl rfl) ?_
      refine AList.nil ?_
      refine AWp.seq ?_
      refine AWp.region ?_
      refine AList.c 61 rfl rfl rfl (OpJ.move rfl rfl) ?_
      refine AList.c 62 rfl rfl rfl (OpJ.sub_ (m := ((tn - 2 : Nat) : Int)) rfl rfl rfl ((i64ok ?_).trans ?_)) ?_
      · omega
      · omega
      refine AList.freeze 1 rfl rfl ?_
      refine AList.c 63 rfl rfl rfl (OpJ.makeFunc rfl rfl rfl) ?_
      refine AList.c 64 rfl rfl rfl (OpJ.callP (search_ok (tn - 2) r (.func 55) [] [.ip (l[i.toNat].cells ++ l[j.toNat].cells ++ [.int .i64 (tn : Int), .int .i64 w.lo, .int .i64 w.hi]) 0] _ (by omega) hr.r_le hr.r_lo hr.r_hi (fun k hk => mix2_F l[i.toNat] l[j.toNat] tn w ks1 ks2 (by omega) hw k (by omega))) rfl rfl rfl rfl rf42) ?_
      refine AList.c 65 rfl rfl rfl (OpJ.add rfl rfl rfl (i64ok ?_)) ?_
      · omega
      refine AList.c 14 rfl rfl rfl (OpJ.allocOwn rfl zr3 rfl) ?_
      refine AList.c0 rfl rfl (OpJ.store rfl rfl rfl rfl rfl ty3 rfl rfl) ?_
      refine AList.nil ?_
      refine AWp.seq ?_
      refine AWp.seq ?_
      refine AWp.region ?_
      refine AList.freeze 2 rfl rfl ?_
      refine AList.c 66 rfl rfl rfl (OpJ.load rfl rfl ty83 rfl) ?_
      refine AList.c 67 rfl rfl rfl (OpJ.load rfl rfl ty3 rfl) ?_
      refine AList.c 68 rfl rfl rfl (OpJ.callP (margin_ok l[i.toNat] l[j.toNat] tn w _ ks1 ks2 (by omega) hw (by omega) (by omega)) rfl rfl rfl rfl rf56) ?_
      refine AList.c 69 rfl rfl rfl (OpJ.lss rfl rfl rfl) ?_
      refine AList.nil ?_
      refine AWp.cond _ rfl (fun hc2 => ?_) (fun hc2 => ?_)
      · skip
        have hm : marg l[i.toNat] l[j.toNat] tn w (1 + (r : Int)) < 0 := of_decide_eq_true hc2
        rw [Int.add_comm] at hm
        have hR := mixR_of hA hG (by omega) (by omega) hne gi2 gj2 (mix_none ht2 hr hm)
        refine AWp.seq ?_
        refine AWp.region ?_
        refine AList.c 70 rfl rfl rfl (OpJ.build rfl bd25 rfl rfl) ?_
        refine AList.c0 rfl rfl (OpJ.store rfl rfl rfl rfl rfl ty25 rfl rfl) ?_
        refine AList.c 11 rfl rfl rfl (OpJ.assign rfl rfl) ?_
        refine AList.nil ?_
        refine AWp.ret ?_
        refine Fin.manyE (xs := [.agg [.int .i64 0, .int .i64 0], .int .i64 4]) rfl (⟨_, _, rfl, ⟨_, _, _, rfl, ty25, rfl⟩, ⟨_, _, rfl, rfl, rfl⟩⟩) rfl ?_
        rw [hR]; rfl
      · skip
        have hm : ¬ marg l[i.toNat] l[j.toNat] tn w (1 + (r : Int)) < 0 := of_decide_eq_false hc2
        rw [Int.add_comm, Int.not_lt] at hm
        have hR := mixR_of hA hG (by omega) (by omega) hne gi2 gj2 (mix_some ht2 hr hm p0 p1 p2 q0 q1 q2)
        refine AWp.skip ?_
        refine AWp.seq ?_
        refine AWp.region ?_
        refine AList.c 71 rfl rfl rfl (OpJ.load rfl rfl ty3 rfl) ?_
        refine AList.c 72 rfl rfl rfl (OpJ.sub_ (m := (r : Int)) rfl rfl rfl ((i64ok ?_).trans ?_)) ?_
        · omega
        · omega
        refine AList.c 73 rfl rfl rfl (OpJ.makeFunc rfl rfl rfl) ?_
        refine AList.c 74 rfl rfl rfl (OpJ.callP (search_ok r p (.func 57) [] [.ip (l[i.toNat].cells ++ l[j.toNat].cells ++ [.int .i64 (tn : Int), .int .i64 w.lo, .int .i64 w.hi]) 0] _ (by omega) p0 p1 p2 (fun k hk => mix3_F l[i.toNat] l[j.toNat] tn w ks1 ks2 (by omega) hw k (by omega))) rfl rfl rfl rfl rf42) ?_
        refine AList.c 75 rfl rfl rfl (OpJ.add rfl rfl rfl (i64ok ?_)) ?_
        · omega
        refine AList.c 15 rfl rfl rfl (OpJ.assign rfl rfl) ?_
        refine AList.nil ?_
        refine AWp.seq ?_
        refine AWp.regionDraw 9 mixed (by kernel_rfl) (by decide) ?_
        refine AQuiet.cons 76 rfl rfl rfl (OpJ.load rfl rfl ty3 rfl) ?_
        refine AQuiet.cons 77 rfl rfl rfl (OpJ.move rfl rfl) ?_
        refine AQuiet.cons 78 rfl rfl rfl (OpJ.sub_ rfl rfl rfl (i64ok ?_)) ?_
        · omega
        refine AQuiet.cons 79 rfl rfl rfl (OpJ.load rfl rfl ty3 rfl) ?_
        refine AQuiet.cons 80 rfl rfl rfl (OpJ.sub_ (m := ((tn - 2 - r : Nat) : Int)) rfl rfl rfl ((i64ok ?_).trans ?_)) ?_
        · omega
        · omega
        refine AQuiet.cons 81 rfl rfl rfl (OpJ.makeFunc rfl rfl rfl) ?_
        refine AQuiet.cons 82 rfl rfl rfl (OpJ.callP (search_ok (tn - 2 - r) q (.func 58) [] [.ip (l[i.toNat].cells ++ l[j.toNat].cells ++ [.int .i64 (tn : Int), .int .i64 w.lo, .int .i64 w.hi]) 0, .ip [.int .i64 (1 + (r : Int))] 0] _ (by omega) q0 q1 q2 (fun k hk => mix4_F l[i.toNat] l[j.toNat] tn r w ks1 ks2 (by omega) hw k (by omega))) rfl rfl rfl rfl rf42) ?_
        refine AQuiet.cons 83 rfl rfl rfl (OpJ.add rfl rfl rfl (i64ok ?_)) ?_
        · omega
        refine AQuiet.cons 16 rfl rfl rfl (OpJ.assign rfl rfl) ?_
        refine AQuiet.nil ?_
        refine AList.nil ?_
        refine AWp.seq ?_
        refine AWp.region ?_
        refine AList.c 84 rfl rfl rfl (OpJ.move rfl rfl) ?_
        refine AList.c 85 rfl rfl rfl (OpJ.move rfl rfl) ?_
        refine AList.c 86 rfl rfl rfl (OpJ.build rfl bd25 rfl rfl) ?_
        refine AList.c0 rfl rfl (OpJ.store rfl rfl rfl rfl rfl ty25 rfl rfl) ?_
        refine AList.c 11 rfl rfl rfl (OpJ.assign rfl rfl) ?_
        refine AList.nil ?_
        refine AWp.ret ?_
        refine Fin.manyE (xs := [.agg [.int .i64 (1 + (p : Int)), .int .i64 (1 + (r : Int) + (q : Int))], .int .i64 0]) rfl (⟨_, _, rfl, ⟨_, _, _, rfl, ty25, rfl⟩, ⟨_, _, rfl, rfl, rfl⟩⟩) rfl ?_
        rw [hR]; rfl
theorem rMixed_ok (l : List Sk) (i j t : Int) (n : Nat) (w : Sp) (okl : okL l) (h1 : (n : Int) ≤ t) (h2 : t ≤ 100000) (hw : 0 ≤ w.lo ∧ w.lo ≤ w.hi ∧ w.hi ≤ 1000) : Pure Try.prog 60 [sacksV l, .int .i64 i, .int .i64 j, .int .i64 t, .int .i64 (n : Int), .agg [.int .i64 w.lo, .int .i64 w.hi]] (.bool (mixOk l i j t w n)) := by
  refine Pure.start (N := 55) Try.func60 rfl rfl (Nat.le_of_ble_eq_true rfl) ?_
  refine AWp.seq ?_
  refine AWp.region ?_
  refine AList.c 11 rfl rfl rfl (OpJ.boxImm rfl rfl rfl) ?_
  refine AList.c 12 rfl rfl rfl (OpJ.assign rfl rfl) ?_
  refine AList.nil ?_
  refine AWp.seq ?_
  refine AWp.region ?_
  refine AList.c 18 rfl rfl rfl (OpJ.move rfl rfl) ?_
  refine AList.c 19 rfl rfl rfl (OpJ.move rfl rfl) ?_
  refine AList.c 20 rfl rfl rfl (OpJ.move rfl rfl) ?_
  refine AList.c 21 rfl rfl rfl (OpJ.build rfl bd25 rfl rfl) ?_
  refine AList.c 22 rfl rfl rfl (OpJ.build rfl bd51 rfl rfl) ?_
  refine AList.c 23 rfl rfl rfl (OpJ.move rfl rfl) ?_
  refine AList.c 24 rfl rfl rfl (OpJ.move rfl rfl) ?_
  refine AList.c 25 rfl rfl rfl (OpJ.move rfl rfl) ?_
  refine AList.c 26 rfl rfl rfl (OpJ.sub_ rfl rfl rfl (i64ok ?_)) ?_
  · omega
  refine AList.c 27 rfl rfl rfl (OpJ.move rfl rfl) ?_
  refine AList.c 28 rfl rfl rfl (OpJ.move rfl rfl) ?_
  refine AList.c 29 rfl rfl rfl (OpJ.sub_ rfl rfl rfl (i64ok ?_)) ?_
  · omega
  refine AList.c 30 rfl rfl rfl (OpJ.build rfl bd25 rfl rfl) ?_
  refine AList.c 31 rfl rfl rfl (OpJ.build rfl bd51 rfl rfl) ?_
  refine AList.c 32 rfl rfl rfl (OpJ.buildImm rfl slz23 (by decide) rfl rfl rfl) ?_
  refine AList.c 13 rfl rfl rfl (OpJ.assign rfl rfl) ?_
  refine AList.nil ?_
  refine AWp.seq ?_
  refine AWp.region ?_
  refine AList.c 34 rfl rfl rfl (OpJ.move rfl rfl) ?_
  refine AList.c 35 rfl rfl rfl (OpJ.move rfl rfl) ?_
  refine AList.c 36 rfl rfl rfl (OpJ.fieldAddr rfl rfl fd25_0 rfl) ?_
  refine AList.c 37 rfl rfl rfl (OpJ.load rfl rfl ty3 rfl) ?_
  refine AList.c 38 rfl rfl rfl (OpJ.callP (rbeyond_ok l (b2 i j t n) _ okl (okB2 (by omega) h1 h2) (by omega)) rfl rfl rfl rfl rf46) ?_
  refine AList.c 33 rfl rfl rfl (OpJ.move rfl rfl) ?_
  refine AList.c 39 rfl rfl rfl (OpJ.extract rfl rfl rfl) ?_
  refine AList.c 40 rfl rfl rfl (OpJ.extract rfl rfl rfl) ?_
  refine AList.c 14 rfl rfl rfl (OpJ.assign rfl rfl) ?_
  refine AList.c 15 rfl rfl rfl (OpJ.assign rfl rfl) ?_
  refine AList.nil ?_
  refine AWp.seq ?_
  refine AWp.region ?_
  refine AList.c 42 rfl rfl rfl (OpJ.move rfl rfl) ?_
  refine AList.c 43 rfl rfl rfl (OpJ.move rfl rfl) ?_
  refine AList.c 44 rfl rfl rfl (OpJ.fieldAddr rfl rfl fd25_1 rfl) ?_
  refine AList.c 45 rfl rfl rfl (OpJ.load rfl rfl ty3 rfl) ?_
  refine AList.c 46 rfl rfl rfl (OpJ.callP (rbeyond_ok l (b2 i j t n) _ okl (okB2 (by omega) h1 h2) (by omega)) rfl rfl rfl rfl rf46) ?_
  refine AList.c 41 rfl rfl rfl (OpJ.move rfl rfl) ?_
  refine AList.c 47 rfl rfl rfl (OpJ.extract rfl rfl rfl) ?_
  refine AList.c 48 rfl rfl rfl (OpJ.extract rfl rfl rfl) ?_
  refine AList.c 16 rfl rfl rfl (OpJ.assign rfl rfl) ?_
  refine AList.c 17 rfl rfl rfl (OpJ.assign rfl rfl) ?_
  refine AList.nil ?_
  refine AWp.seq ?_
  refine AWp.region ?_
  refine AList.c 49 rfl rfl rfl (OpJ.move rfl rfl) ?_
  refine AList.c 50 rfl rfl rfl (OpJ.geq rfl rfl rfl) ?_
  refine AList.c 51 rfl rfl rfl (OpJ.move rfl rfl) ?_
  refine AList.g 52 51 rfl rfl rfl rfl rfl rfl rfl [(17, _)] (fun h => And.intro (.inl rfl) (trivial)) (fun h => (OpJ.move rfl rfl)) ?_
  refine AList.g 53 51 rfl rfl rfl rfl rfl rfl rfl [(52, _)] (fun h => And.intro (.inr ⟨_, rfl, h⟩) (trivial)) (fun h => (OpJ.leq rfl rfl rfl)) ?_
  refine AList.c 54 rfl rfl rfl (OpJ.and_ rfl rfl rfl ?_) ?_
  · intro h; rw [h]; rfl
  refine AList.c 12 rfl rfl rfl (OpJ.assign rfl rfl) ?_
  refine AList.nil ?_
  refine AWp.ret ?_
  exact Fin.one rfl (rfl)
theorem rMix_ok (l : List Sk) (i j t : Int) (w : Sp) (hl : l.length ≤ bigN) : Pure Try.prog 18 [sacksV l, .int .i64 i, .int .i64 j, .int .i64 t, .agg [.int .i64 w.lo, .int .i64 w.hi]] (.tuple (mixR l i j t w)) := by
  have hl1 := hl
  unfold bigN at hl1
  refine Pure.start (N := 70) Try.func18 rfl rfl (Nat.le_of_ble_eq_true rfl) ?_
  refine AWp.seq ?_
  refine AWp.region ?_
  refine AList.c 9 rfl rfl rfl (OpJ.boxImm rfl rfl rfl) ?_
  refine AList.c 10 rfl rfl rfl (OpJ.allocOwn rfl zr25 rfl) ?_
  refine AList.c 11 rfl rfl rfl (OpJ.assign rfl rfl) ?_
  refine AList.nil ?_
  refine AWp.seq ?_
  refine AWp.seq ?_
  refine AWp.region ?_
  refine AList.c 15 rfl rfl rfl (OpJ.move rfl rfl) ?_
  refine AList.c 16 rfl rfl rfl (OpJ.callP (rSacks_ok _ ?_) rfl rfl rfl rfl rf19) ?_
  · assumption
  refine AList.c 17 rfl rfl rfl (OpJ.not_ rfl rfl) ?_
  refine AList.nil ?_
  refine AWp.cond _ rfl (fun hc0 => ?_) (fun hc0 => ?_)
  · skip
    have hA : areSacksB l = false := by simp only [Bool.not_eq_true'] at hc0; exact hc0
    refine AWp.seq ?_
    refine AWp.region ?_
    refine AList.c 18 rfl rfl rfl (OpJ.build rfl bd25 rfl rfl) ?_
    refine AList.c0 rfl rfl (OpJ.store rfl rfl rfl rfl rfl ty25 rfl rfl) ?_
    refine AList.c 11 rfl rfl rfl (OpJ.assign rfl rfl) ?_
    refine AList.nil ?_
    refine AWp.ret ?_
    refine Fin.manyE (xs := [.agg [.int .i64 0, .int .i64 0], .int .i64 1]) rfl (⟨_, _, rfl, ⟨_, _, _, rfl, ty25, rfl⟩, ⟨_, _, rfl, rfl, rfl⟩⟩) rfl ?_
    simp [mixR, hA, noSpan]
  · skip
    have hA : areSacksB l = true := by simp only [Bool.not_eq_false'] at hc0; exact hc0
    have okl := okL_of hA
    refine AWp.skip ?_
    refine AWp.seq ?_
    refine AWp.seq ?_
    refine AWp.region ?_
    refine AList.c 19 rfl rfl rfl (OpJ.move rfl rfl) ?_
    refine AList.c 20 rfl rfl rfl (OpJ.move rfl rfl) ?_
    refine AList.c 21 rfl rfl rfl (OpJ.lenSlice rfl rfl sl22 rfl) ?_
    refine AList.c 22 rfl rfl rfl (OpJ.sub_ rfl rfl rfl (i64ok ?_)) ?_
    · omega
    refine AList.c 23 rfl rfl rfl (OpJ.callP (in_ok _ _ _) rfl rfl rfl rfl rf59) ?_
    refine AList.c 24 rfl rfl rfl (OpJ.not_ rfl rfl) ?_
    refine AList.c 25 rfl rfl rfl (OpJ.move rfl rfl) ?_
    refine AList.g 26 25 rfl rfl rfl rfl rfl rfl rfl [(2, _)] (fun h => And.intro (.inl rfl) (trivial)) (fun h => (OpJ.move rfl rfl)) ?_
    refine AList.g 27 25 rfl rfl rfl rfl rfl rfl rfl [(0, _)] (fun h => And.intro (.inl rfl) (trivial)) (fun h => (OpJ.move rfl rfl)) ?_
    refine AList.g 28 25 rfl rfl rfl rfl rfl rfl rfl [(27, _)] (fun h => And.intro (.inr ⟨_, rfl, h⟩) (trivial)) (fun h => (OpJ.lenSlice rfl rfl sl22 rfl)) ?_
    refine AList.g 29 25 rfl rfl rfl rfl rfl rfl rfl [(28, _)] (fun h => And.intro (.inr ⟨_, rfl, h⟩) (trivial)) (fun h => (OpJ.sub_ rfl rfl rfl (i64ok ?_))) ?_
    · omega
    refine AList.g 30 25 rfl rfl rfl rfl rfl rfl rfl [(26, _), (29, _)] (fun h => And.intro (.inr ⟨_, rfl, h⟩) (And.intro (.inr ⟨_, rfl, h⟩) (trivial))) (fun h => (OpJ.callP (in_ok _ _ _) rfl rfl rfl rfl rf59)) ?_
    refine AList.g 31 25 rfl rfl rfl rfl rfl rfl rfl [(30, _)] (fun h => And.intro (.inr ⟨_, rfl, h⟩) (trivial)) (fun h => (OpJ.not_ rfl rfl)) ?_
    refine AList.c 32 rfl rfl rfl (OpJ.or_ rfl rfl rfl ?_) ?_
    · intro h; rw [h]; rfl
    refine AList.c 33 rfl rfl rfl (OpJ.move rfl rfl) ?_
    refine AList.g 34 33 rfl rfl rfl rfl rfl rfl rfl [(1, _)] (fun h => And.intro (.inl rfl) (trivial)) (fun h => (OpJ.move rfl rfl)) ?_
    refine AList.g 35 33 rfl rfl rfl rfl rfl rfl rfl [(2, _)] (fun h => And.intro (.inl rfl) (trivial)) (fun h => (OpJ.move rfl rfl)) ?_
    refine AList.g 36 33 rfl rfl rfl rfl rfl rfl rfl [(34, _), (35, _)] (fun h => And.intro (.inr ⟨_, rfl, h⟩) (And.intro (.inr ⟨_, rfl, h⟩) (trivial))) (fun h => (OpJ.eql rfl rfl rfl)) ?_
    refine AList.c 37 rfl rfl rfl (OpJ.or_ rfl rfl rfl ?_) ?_
    · intro h; rw [h]; rfl
    refine AList.c 38 rfl rfl rfl (OpJ.move rfl rfl) ?_
    refine AList.g 39 38 rfl rfl rfl rfl rfl rfl rfl [(3, _)] (fun h => And.intro (.inl rfl) (trivial)) (fun h => (OpJ.move rfl rfl)) ?_
    refine AList.g 40 38 rfl rfl rfl rfl rfl rfl rfl [(39, _)] (fun h => And.intro (.inr ⟨_, rfl, h⟩) (trivial)) (fun h => (OpJ.callP (in_ok _ _ _) rfl rfl rfl rfl rf59)) ?_
    refine AList.g 41 38 rfl rfl rfl rfl rfl rfl rfl [(40, _)] (fun h => And.intro (.inr ⟨_, rfl, h⟩) (trivial)) (fun h => (OpJ.not_ rfl rfl)) ?_
    refine AList.c 42 rfl rfl rfl (OpJ.or_ rfl rfl rfl ?_) ?_
    · intro h; rw [h]; rfl
    refine AList.c 43 rfl rfl rfl (OpJ.move rfl rfl) ?_
    refine AList.g 44 43 rfl rfl rfl rfl rfl rfl rfl [(9, _)] (fun h => And.intro (.inl rfl) (trivial)) (fun h => (OpJ.load rfl rfl ty25 rfl)) ?_
    refine AList.g 45 43 rfl rfl rfl rfl rfl rfl rfl [(44, _)] (fun h => And.intro (.inr ⟨_, rfl, h⟩) (trivial)) (fun h => (OpJ.callP (rspan_ok _ _ _ _) rfl rfl rfl rfl rf49)) ?_
    refine AList.g 46 43 rfl rfl rfl rfl rfl rfl rfl [(45, _)] (fun h => And.intro (.inr ⟨_, rfl, h⟩) (trivial)) (fun h => (OpJ.not_ rfl rfl)) ?_
    refine AList.c 47 rfl rfl rfl (OpJ.or_ rfl rfl rfl ?_) ?_
    · intro h; rw [h]; rfl
    refine AList.nil ?_
    refine AWp.cond _ rfl (fun hc1 => ?_) (fun hc1 => ?_)
    · skip
      have hG : mixGood l i j t w = false := by have := congrArg (!·) hc1; simpa only [mixGood, Sp.ok, Bool.not_or, Bool.not_not, Bool.not_true] using this
      refine AWp.seq ?_
      refine AWp.region ?_
      refine AList.c 48 rfl rfl rfl (OpJ.build rfl bd25 rfl rfl) ?_
      refine AList.c0 rfl rfl (OpJ.store rfl rfl rfl rfl rfl ty25 rfl rfl) ?_
      refine AList.c 11 rfl rfl rfl (OpJ.assign rfl rfl) ?_
      refine AList.nil ?_
      refine AWp.ret ?_
      refine Fin.manyE (xs := [.agg [.int .i64 0, .int .i64 0], .int .i64 2]) rfl (⟨_, _, rfl, ⟨_, _, _, rfl, ty25, rfl⟩, ⟨_, _, rfl, rfl, rfl⟩⟩) rfl ?_
      simp [mixR, hA, hG, noSpan]
    · skip
      have hG : mixGood l i j t w = true := by have := congrArg (!·) hc1; simpa only [mixGood, Sp.ok, Bool.not_or, Bool.not_not, Bool.not_false] using this
      have hgb : (0 ≤ i ∧ i ≤ (l.length : Int) - 1) ∧ (0 ≤ j ∧ j ≤ (l.length : Int) - 1) ∧ i ≠ j ∧ (2 ≤ t ∧ t ≤ 100000) ∧ (0 ≤ w.lo ∧ w.lo ≤ w.hi ∧ w.hi ≤ 1000) := by simp [mixGood, Sp.ok] at hG; omega
      obtain ⟨gi, gj, hne, gt, hw⟩ := hgb
      obtain ⟨tn, rfl⟩ : ∃ n : Nat, t = n := ⟨t.toNat, by omega⟩
      refine AWp.skip ?_
      refine AWp.seq ?_
      refine AWp.region ?_
      refine AList.c 49 rfl rfl rfl (OpJ.build rfl bd25 rfl rfl) ?_
      refine AList.c 12 rfl rfl rfl (OpJ.allocOwn rfl zr25 rfl) ?_
      refine AList.c0 rfl rfl (OpJ.store rfl rfl rfl rfl rfl ty25 rfl rfl) ?_
      refine AList.c 13 rfl rfl rfl (OpJ.assign rfl rfl) ?_
      refine AList.nil ?_
      refine AWp.seq ?_
      refine AWp.seq ?_
      refine AWp.region ?_
      refine AList.c 14 rfl rfl rfl (OpJ.assign rfl rfl) ?_
      refine AList.nil ?_
      refine AWp.block ?_
      refine AWp.loopH [13, 14, 50, 51, 52, 53, 54, 55, 56, 57, 58, 59, 60, 61, 62, 63, 64, 65, 66] (fun g => [(14, .p (.int .i64 (((g : Nat) + 1 : Nat) : Int))), (13, .p (.bool (mixS (mixOk l i j tn w) g).isNone))]) (fun g => [.cells [.p (.int .i64 (0)), .p (.int .i64 (0))] 25, .cells [.p (.int .i64 (((mixS (mixOk l i j tn w) g).getD (0, 0)).1)), .p (.int .i64 (((mixS (mixOk l i j tn w) g).getD (0, 0)).2))] 25]) (fun g => g + 1 ≤ tn) (fun g => tn - g) 0 (by omega) (To.sub (Sub.chd (Sub.cons rfl (Sub.cons rfl Sub.nil)))) (fun k hg => ?_)
      refine AWp.seq ?_
      refine AWp.seq ?_
      refine AWp.region ?_
      refine AList.c 50 rfl rfl rfl (OpJ.move rfl rfl) ?_
      refine AList.c 51 rfl rfl rfl (OpJ.move rfl rfl) ?_
      refine AList.c 52 rfl rfl rfl (OpJ.lss rfl rfl rfl) ?_
      refine AList.nil ?_
      refine AWp.cond _ rfl (fun hc2 => ?_) (fun hc2 => ?_)
      · skip
        have hk : k + 1 < tn := by simp at hc2; omega
        refine AWp.skip ?_
        refine AWp.seq ?_
        refine AWp.block ?_
        refine AWp.seq ?_
        refine AWp.region ?_
        refine AList.c 55 rfl rfl rfl (OpJ.move rfl rfl) ?_
        refine AList.c 56 rfl rfl rfl (OpJ.move rfl rfl) ?_
        refine AList.c 57 rfl rfl rfl (OpJ.move rfl rfl) ?_
        refine AList.c 58 rfl rfl rfl (OpJ.move rfl rfl) ?_
        refine AList.c 59 rfl rfl rfl (OpJ.move rfl rfl) ?_
        refine AList.c 60 rfl rfl rfl (OpJ.load rfl rfl ty25 rfl) ?_
        refine AList.c 61 rfl rfl rfl (OpJ.callP (rMixed_ok l i j tn (k + 1) w okl (by omega) (by omega) hw) rfl rfl rfl rfl rf60) ?_
        refine AList.nil ?_
        refine AWp.cond _ rfl (fun hc3 => ?_) (fun hc3 => ?_)
        · skip
          have ek : mixS (mixOk l i j tn w) (k + 1) = some (((mixS (mixOk l i j tn w) k).map (·.1)).getD ((k : Int) + 1), (k : Int) + 1) := by rw [mixS, if_pos (show mixOk l i j tn w (k + 1) = true from hc3)]
          refine AWp.seq ?_
          refine AWp.seq ?_
          refine AWp.region ?_
          refine AList.c 62 rfl rfl rfl (OpJ.move rfl rfl) ?_
          refine AList.nil ?_
          refine AWp.cond _ rfl (fun hc4 => ?_) (fun hc4 => ?_)
          · skip
            have en : mixS (mixOk l i j tn w) k = none := by simpa using hc4
            refine AWp.region ?_
            refine AList.c 63 rfl rfl rfl (OpJ.move rfl rfl) ?_
            refine AList.c 64 rfl rfl rfl (OpJ.fieldAddr rfl rfl fd25_0 rfl) ?_
            refine AList.c0 rfl rfl (OpJ.store rfl rfl rfl rfl rfl ty3 rfl rfl) ?_
            refine AList.nil ?_
            refine AWp.seq ?_
            refine AWp.region ?_
            refine AList.c 65 rfl rfl rfl (OpJ.move rfl rfl) ?_
            refine AList.c 66 rfl rfl rfl (OpJ.fieldAddr rfl rfl fd25_1 rfl) ?_
            refine AList.c0 rfl rfl (OpJ.store rfl rfl rfl rfl rfl ty3 rfl rfl) ?_
            refine AList.nil ?_
            refine AWp.region ?_
            refine AList.c 13 rfl rfl rfl (OpJ.assign rfl rfl) ?_
            refine AList.nil ?_
            refine AWp.region ?_
            refine AList.c 53 rfl rfl rfl (OpJ.move rfl rfl) ?_
            refine AList.c 54 rfl rfl rfl (OpJ.add rfl rfl rfl (i64ok ?_)) ?_
            · omega
            refine AList.c 14 rfl rfl rfl (OpJ.assign rfl rfl) ?_
            refine AList.nil ?_
            refine ⟨k + 1, ?_, ?_, ?_⟩
            · omega
            · omega
            rw [ek, en]
            exact To.done [0, 1] rfl (by repeat (first | exact Sub.nil | refine Sub.cons rfl ?_)) rfl
          · skip
            obtain ⟨⟨x, y⟩, en⟩ : ∃ z, mixS (mixOk l i j tn w) k = some z := Option.isSome_iff_exists.1 (by simpa using hc4)
            refine AWp.skip ?_
            refine AWp.seq ?_
            refine AWp.region ?_
            refine AList.c 65 rfl rfl rfl (OpJ.move rfl rfl) ?_
            refine AList.c 66 rfl rfl rfl (OpJ.fieldAddr rfl rfl fd25_1 rfl) ?_
            refine AList.c0 rfl rfl (OpJ.store rfl rfl rfl rfl rfl ty3 rfl rfl) ?_
            refine AList.nil ?_
            refine AWp.region ?_
            refine AList.c 13 rfl rfl rfl (OpJ.assign rfl rfl) ?_
            refine AList.nil ?_
            refine AWp.region ?_
            refine AList.c 53 rfl rfl rfl (OpJ.move rfl rfl) ?_
            refine AList.c 54 rfl rfl rfl (OpJ.add rfl rfl rfl (i64ok ?_)) ?_
            · omega
            refine AList.c 14 rfl rfl rfl (OpJ.assign rfl rfl) ?_
            refine AList.nil ?_
            refine ⟨k + 1, ?_, ?_, ?_⟩
            · omega
            · omega
            rw [ek, en]
            refine To.done [0, 1] rfl (by repeat (first | exact Sub.nil | refine Sub.cons rfl ?_)) ?_
            first | rfl | (simp only [en]; rfl)
        · skip
          have ek : mixS (mixOk l i j tn w) (k + 1) = mixS (mixOk l i j tn w) k := by rw [mixS, if_neg (by rw [show mixOk l i j tn w (k + 1) = false from hc3]; decide)]
          refine AWp.skip ?_
          refine AWp.region ?_
          refine AList.c 53 rfl rfl rfl (OpJ.move rfl rfl) ?_
          refine AList.c 54 rfl rfl rfl (OpJ.add rfl rfl rfl (i64ok ?_)) ?_
          · omega
          refine AList.c 14 rfl rfl rfl (OpJ.assign rfl rfl) ?_
          refine AList.nil ?_
          refine ⟨k + 1, ?_, ?_, ?_⟩
          · omega
          · omega
          rw [ek]
          exact To.done [0, 1] rfl (by repeat (first | exact Sub.nil | refine Sub.cons rfl ?_)) rfl
      · skip
        obtain rfl : tn = k + 1 := by simp at hc2; omega
        have et : (((k + 1 : Nat) : Int) - 1).toNat = k := by omega
        refine AWp.exit ?_
        refine AWp.seq ?_
        refine AWp.seq ?_
        refine AWp.region ?_
        refine AList.c 67 rfl rfl rfl (OpJ.move rfl rfl) ?_
        refine AList.nil ?_
        refine AWp.cond _ rfl (fun hc5 => ?_) (fun hc5 => ?_)
        · skip
          have en : mixS (mixOk l i j ((k + 1 : Nat) : Int) w) k = none := by simpa using hc5
          refine AWp.seq ?_
          refine AWp.region ?_
          refine AList.c 68 rfl rfl rfl (OpJ.build rfl bd25 rfl rfl) ?_
          refine AList.c0 rfl rfl (OpJ.store rfl rfl rfl rfl rfl ty25 rfl rfl) ?_
          refine AList.c 11 rfl rfl rfl (OpJ.assign rfl rfl) ?_
          refine AList.nil ?_
          refine AWp.ret ?_
          refine Fin.manyE (xs := [.agg [.int .i64 0, .int .i64 0], .int .i64 4]) rfl (⟨_, _, rfl, ⟨_, _, _, rfl, ty25, rfl⟩, ⟨_, _, rfl, rfl, rfl⟩⟩) rfl ?_
          simp only [mixR, hA, hG, if_true, et, en]; rfl
        · skip
          obtain ⟨⟨x, y⟩, en⟩ : ∃ z, mixS (mixOk l i j ((k + 1 : Nat) : Int) w) k = some z := Option.isSome_iff_exists.1 (by simpa using hc5)
          refine AWp.skip ?_
          refine AWp.seq ?_
          refine AWp.region ?_
          refine AList.c 69 rfl rfl rfl (OpJ.load rfl rfl ty25 rfl) ?_
          refine AList.c0 rfl rfl (OpJ.store rfl rfl rfl rfl rfl ty25 rfl rfl) ?_
          refine AList.c 11 rfl rfl rfl (OpJ.assign rfl rfl) ?_
          refine AList.nil ?_
          refine AWp.ret ?_
          refine Fin.manyE (xs := [.agg [.int .i64 ((mixS (mixOk l i j ((k + 1 : Nat) : Int) w) k).getD (0, 0)).1, .int .i64 ((mixS (mixOk l i j ((k + 1 : Nat) : Int) w) k).getD (0, 0)).2], .int .i64 0]) rfl (⟨_, _, rfl, ⟨_, _, _, rfl, ty25, rfl⟩, ⟨_, _, rfl, rfl, rfl⟩⟩) rfl ?_
          simp only [mixR, hA, hG, if_true, et, en]; rfl
end Go.Proofs.Ytmcejcidbekpkaa
