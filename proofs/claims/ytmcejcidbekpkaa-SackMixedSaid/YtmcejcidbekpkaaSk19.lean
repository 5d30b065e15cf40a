/-
  The law SackMixed.
-/
import Derived.Test.YtmcejcidbekpkaaSkFactsB
import Derived.Test.YtmcejcidbekpkaaSk18
import Derived.Test.YtmcejcidbekpkaaSkN
set_option linter.unusedVariables false
set_option maxRecDepth 100000
set_option maxHeartbeats 4000000
set_option linter.unusedSimpArgs false
namespace Go.Proofs.Ytmcejcidbekpkaa
open Go.AF
theorem mixed1_ok (l : List Sk) (i j t : Int) (w : Sp) (n : Int) (hl : l.length ≤ bigN) (hA : areSacksB l = true) (hG : mixGood l i j t w = true) (hn : 0 ≤ n ∧ n ≤ t) : Pure Try.prog 28 [.int .i64 n, .ip [sacksV l] 0, .ip [.int .i64 i] 0, .ip [.int .i64 j] 0, .ip [.int .i64 t] 0, .ip [.int .i64 w.lo, .int .i64 w.hi] 0] (.bool (withinB l i j t w n)) := by
  obtain ⟨gi, gj, hne, gt, hw⟩ := good_of hG
  refine Pure.start (N := 46) Try.func28 rfl rfl (Nat.le_of_ble_eq_true rfl) ?_
  refine AWp.seq ?_
  refine AWp.region ?_
  refine AList.c 7 rfl rfl rfl (OpJ.assign rfl rfl) ?_
  refine AList.nil ?_
  refine AWp.seq ?_
  refine AWp.regionDrawC 23 mixed (by kernel_rfl) (by decide) ?_
  refine AQuietC.cons 11 rfl rfl rfl (OpJ.load rfl rfl ty22 rfl) (fun _ => (OpJ.load rfl rfl ty22 rfl)) ?_
  refine AQuietC.cons 12 rfl rfl rfl (OpJ.load rfl rfl ty3 rfl) (fun _ => (OpJ.load rfl rfl ty3 rfl)) ?_
  refine AQuietC.cons 13 rfl rfl rfl (OpJ.move rfl rfl) (fun _ => (OpJ.move rfl rfl)) ?_
  refine AQuietC.cons 14 rfl rfl rfl (OpJ.move rfl rfl) (fun _ => (OpJ.move rfl rfl)) ?_
  refine AQuietC.cons 15 rfl rfl rfl (OpJ.callP (lspan_ok _ _) rfl rfl rfl rfl rf24) (fun _ => (OpJ.callP (lspan_ok _ _) rfl rfl rfl rfl rf24)) ?_
  refine AQuietC.cons 16 rfl rfl rfl (OpJ.build rfl bd51 rfl rfl) (fun _ => (OpJ.build rfl bd51 rfl rfl)) ?_
  refine AQuietC.cons 17 rfl rfl rfl (OpJ.load rfl rfl ty3 rfl) (fun _ => (OpJ.load rfl rfl ty3 rfl)) ?_
  refine AQuietC.cons 18 rfl rfl rfl (OpJ.load rfl rfl ty3 rfl) (fun _ => (OpJ.load rfl rfl ty3 rfl)) ?_
  refine AQuietC.cons 19 rfl rfl rfl (OpJ.move rfl rfl) (fun _ => (OpJ.move rfl rfl)) ?_
  refine AQuietC.cons 20 rfl rfl rfl (OpJ.sub_ rfl rfl rfl (i64ok ?_)) (fun _ => (OpJ.sub_ rfl rfl rfl (i64ok ?_))) ?_
  · omega
  · omega
  refine AQuietC.cons 21 rfl rfl rfl (OpJ.load rfl rfl ty3 rfl) (fun _ => (OpJ.load rfl rfl ty3 rfl)) ?_
  refine AQuietC.cons 22 rfl rfl rfl (OpJ.move rfl rfl) (fun _ => (OpJ.move rfl rfl)) ?_
  refine AQuietC.cons 23 rfl rfl rfl (OpJ.sub_ rfl rfl rfl (i64ok ?_)) (fun _ => (OpJ.sub_ rfl rfl rfl (i64ok ?_))) ?_
  · omega
  · omega
  refine AQuietC.cons 24 rfl rfl rfl (OpJ.callP (lspan_ok _ _) rfl rfl rfl rfl rf24) (fun _ => (OpJ.callP (lspan_ok _ _) rfl rfl rfl rfl rf24)) ?_
  refine AQuietC.cons 25 rfl rfl rfl (OpJ.build rfl bd51 rfl rfl) (fun _ => (OpJ.build rfl bd51 rfl rfl)) ?_
  refine AQuietC.cons 26 rfl rfl rfl (OpJ.buildImm rfl slz23 (by decide) rfl rfl rfl) (fun _ => (OpJ.buildImm rfl slz23 (by decide) rfl rfl rfl)) ?_
  refine AQuietC.cons 27 rfl rfl rfl (OpJ.callP (share_n l (b2 i j t n) hl (by unfold bigN b2; simp)) rfl rfl rfl rfl rf13) (fun _ => (OpJ.callP (share_n l (b2 i j t n) hl (by unfold bigN b2; simp)) rfl rfl rfl rfl rf13)) ?_
  refine AQuietC.cons 10 rfl rfl rfl (OpJ.move rfl rfl) (fun _ => (OpJ.move rfl rfl)) ?_
  refine AQuietC.cons 28 rfl rfl rfl (OpJ.extract rfl rfl rfl) (fun _ => (OpJ.extract rfl rfl rfl)) ?_
  refine AQuietC.cons 29 rfl rfl rfl (OpJ.extract rfl rfl rfl) (fun _ => (OpJ.extract rfl rfl rfl)) ?_
  refine AQuietC.lay 8 rfl rfl rfl (OpJ.allocOwn rfl zr25 rfl) ?_
  refine AQuietC.put rfl rfl (by decide) (OpJ.store rfl rfl rfl rfl rfl ty25 rfl rfl) rfl ?_
  refine AQuietC.cons 9 rfl rfl rfl (OpJ.assign rfl rfl) (fun _ => (OpJ.assign rfl rfl)) ?_
  refine AQuietC.nil ?_
  refine AList.nil ?_
  refine AWp.seq ?_
  refine AWp.region ?_
  refine AList.c 30 rfl rfl rfl (OpJ.move rfl rfl) ?_
  refine AList.c 31 rfl rfl rfl (OpJ.eql rfl rfl rfl) ?_
  refine AList.c 32 rfl rfl rfl (OpJ.move rfl rfl) ?_
  refine AList.g 33 32 rfl rfl rfl rfl rfl rfl rfl [(8, _)] (fun h => And.intro (.inl rfl) (trivial)) (fun h => (OpJ.fieldAddr rfl rfl fd25_0 rfl)) ?_
  refine AList.g 34 32 rfl rfl rfl rfl rfl rfl rfl [(33, _)] (fun h => And.intro (.inr ⟨_, rfl, h⟩) (trivial)) (fun h => (OpJ.load rfl rfl ty3 rfl)) ?_
  refine AList.g 35 32 rfl rfl rfl rfl rfl rfl rfl [(5, _)] (fun h => And.intro (.inl rfl) (trivial)) (fun h => (OpJ.fieldAddr rfl rfl fd25_0 rfl)) ?_
  refine AList.g 36 32 rfl rfl rfl rfl rfl rfl rfl [(35, _)] (fun h => And.intro (.inr ⟨_, rfl, h⟩) (trivial)) (fun h => (OpJ.load rfl rfl ty3 rfl)) ?_
  refine AList.g 37 32 rfl rfl rfl rfl rfl rfl rfl [(34, _), (36, _)] (fun h => And.intro (.inr ⟨_, rfl, h⟩) (And.intro (.inr ⟨_, rfl, h⟩) (trivial))) (fun h => (OpJ.geq rfl rfl rfl)) ?_
  refine AList.c 38 rfl rfl rfl (OpJ.and_ rfl rfl rfl ?_) ?_
  · first | (intro h; rw [h]; rfl) | (intro h; simp_all)
  refine AList.c 39 rfl rfl rfl (OpJ.move rfl rfl) ?_
  refine AList.g 40 39 rfl rfl rfl rfl rfl rfl rfl [(8, _)] (fun h => And.intro (.inl rfl) (trivial)) (fun h => (OpJ.fieldAddr rfl rfl fd25_1 rfl)) ?_
  refine AList.g 41 39 rfl rfl rfl rfl rfl rfl rfl [(40, _)] (fun h => And.intro (.inr ⟨_, rfl, h⟩) (trivial)) (fun h => (OpJ.load rfl rfl ty3 rfl)) ?_
  refine AList.g 42 39 rfl rfl rfl rfl rfl rfl rfl [(5, _)] (fun h => And.intro (.inl rfl) (trivial)) (fun h => (OpJ.fieldAddr rfl rfl fd25_1 rfl)) ?_
  refine AList.g 43 39 rfl rfl rfl rfl rfl rfl rfl [(42, _)] (fun h => And.intro (.inr ⟨_, rfl, h⟩) (trivial)) (fun h => (OpJ.load rfl rfl ty3 rfl)) ?_
  refine AList.g 44 39 rfl rfl rfl rfl rfl rfl rfl [(41, _), (43, _)] (fun h => And.intro (.inr ⟨_, rfl, h⟩) (And.intro (.inr ⟨_, rfl, h⟩) (trivial))) (fun h => (OpJ.leq rfl rfl rfl)) ?_
  refine AList.c 45 rfl rfl rfl (OpJ.and_ rfl rfl rfl ?_) ?_
  · first | (intro h; rw [h]; rfl) | (intro h; simp_all)
  refine AList.c 7 rfl rfl rfl (OpJ.assign rfl rfl) ?_
  refine AList.nil ?_
  refine AWp.ret ?_
  refine Fin.oneE rfl rfl ?_
  rw [← within_eq hA hG]
theorem mixed1_F (l : List Sk) (i j t : Int) (w : Sp) (n : Int) (hl : l.length ≤ bigN) (hA : areSacksB l = true) (hG : mixGood l i j t w = true) (hn : 0 ≤ n ∧ n ≤ t) : FPure Try.prog (.func (.func 28) [] [.ip [sacksV l] 0, .ip [.int .i64 i] 0, .ip [.int .i64 j] 0, .ip [.int .i64 t] 0, .ip [.int .i64 w.lo, .int .i64 w.hi] 0]) [.int .i64 n] (.bool (withinB l i j t w n)) := ⟨28, [.int .i64 n, .ip [sacksV l] 0, .ip [.int .i64 i] 0, .ip [.int .i64 j] 0, .ip [.int .i64 t] 0, .ip [.int .i64 w.lo, .int .i64 w.hi] 0], rfl, rf28, mixed1_ok l i j t w n hl hA hG hn⟩
theorem SackMixed_ok (l : List Sk) (i j t : Int) (w : Sp) (y : Int) (hy : 0 ≤ y ∧ y ≤ 4294967295) : Pure Try.prog 8 [sacksV l, .int .i64 i, .int .i64 j, .int .i64 t, .agg [.int .i64 w.lo, .int .i64 w.hi], .int .u32 y] (.bool true) := by
  refine Pure.start (N := 179) Try.func8 rfl rfl (Nat.le_of_ble_eq_true rfl) ?_
  refine AWp.seq ?_
  refine AWp.region ?_
  refine AList.c 6 rfl rfl rfl (OpJ.boxImm rfl rfl rfl) ?_
  refine AList.c 7 rfl rfl rfl (OpJ.boxImm rfl rfl rfl) ?_
  refine AList.c 8 rfl rfl rfl (OpJ.boxImm rfl rfl rfl) ?_
  refine AList.c 9 rfl rfl rfl (OpJ.boxImm rfl rfl rfl) ?_
  refine AList.c 10 rfl rfl rfl (OpJ.boxImm rfl rfl rfl) ?_
  refine AList.c 12 rfl rfl rfl (OpJ.assign rfl rfl) ?_
  refine AList.nil ?_
  refine AWp.seq ?_
  refine AWp.seq ?_
  refine AWp.region ?_
  refine AList.c 17 rfl rfl rfl (OpJ.load rfl rfl ty22 rfl) ?_
  refine AList.c 18 rfl rfl rfl (OpJ.callP (large0_ok l) rfl rfl rfl rfl rf9) ?_
  refine AList.nil ?_
  refine AWp.cond _ rfl (fun hc0 => ?_) (fun hc0 => ?_)
  · skip
    refine AWp.seq ?_
    refine AWp.region ?_
    refine AList.c 19 rfl rfl rfl (OpJ.callP (awake_ok) rfl rfl rfl rfl rf10) ?_
    refine AList.c 12 rfl rfl rfl (OpJ.assign rfl rfl) ?_
    refine AList.nil ?_
    refine AWp.ret ?_
    refine Fin.oneE rfl rfl ?_
    rfl
  · skip
    have hl : l.length ≤ bigN := by unfold bigN; simp at hc0; omega
    refine AWp.skip ?_
    refine AWp.seq ?_
    refine AWp.region ?_
    refine AList.c 21 rfl rfl rfl (OpJ.load rfl rfl ty22 rfl) ?_
    refine AList.c 22 rfl rfl rfl (OpJ.load rfl rfl ty3 rfl) ?_
    refine AList.c 23 rfl rfl rfl (OpJ.load rfl rfl ty3 rfl) ?_
    refine AList.c 24 rfl rfl rfl (OpJ.load rfl rfl ty3 rfl) ?_
    refine AList.c 25 rfl rfl rfl (OpJ.load rfl rfl ty25 rfl) ?_
    refine AList.c 26 rfl rfl rfl (OpJ.callP (mix_n l i j t w hl) rfl rfl rfl rfl rf17) ?_
    refine AList.c 20 rfl rfl rfl (OpJ.move rfl rfl) ?_
    refine AList.c 27 rfl rfl rfl (OpJ.extract rfl rfl rfl) ?_
    refine AList.c 28 rfl rfl rfl (OpJ.extract rfl rfl rfl) ?_
    refine AList.c 13 rfl rfl rfl (OpJ.allocOwn rfl zr25 rfl) ?_
    refine AList.c0 rfl rfl (OpJ.store rfl rfl rfl rfl rfl ty25 rfl rfl) ?_
    refine AList.c 14 rfl rfl rfl (OpJ.assign rfl rfl) ?_
    refine AList.nil ?_
    refine AWp.seq ?_
    refine AWp.seq ?_
    refine AWp.region ?_
    refine AList.c 29 rfl rfl rfl (OpJ.move rfl rfl) ?_
    refine AList.c 30 rfl rfl rfl (OpJ.eql rfl rfl rfl) ?_
    refine AList.c 31 rfl rfl rfl (OpJ.move rfl rfl) ?_
    refine AList.g 32 31 rfl rfl rfl rfl rfl rfl rfl [(14, _)] (fun h => And.intro (.inl rfl) (trivial)) (fun h => (OpJ.move rfl rfl)) ?_
    refine AList.g 33 31 rfl rfl rfl rfl rfl rfl rfl [(32, _)] (fun h => And.intro (.inr ⟨_, rfl, h⟩) (trivial)) (fun h => (OpJ.eql rfl rfl rfl)) ?_
    refine AList.c 34 rfl rfl rfl (OpJ.or_ rfl rfl rfl ?_) ?_
    · first | (intro h; rw [h]; rfl) | (intro h; simp_all)
    refine AList.nil ?_
    refine AWp.cond _ rfl (fun hc1 => ?_) (fun hc1 => ?_)
    · skip
      have hb := mix_bad (l := l) (i := i) (j := j) (t := t) (w := w) (by simpa using hc1)
      refine AWp.seq ?_
      refine AWp.region ?_
      refine AList.c 35 rfl rfl rfl (OpJ.load rfl rfl ty25 rfl) ?_
      refine AList.c 36 rfl rfl rfl (OpJ.build rfl bd25 rfl rfl) ?_
      refine AList.c 37 rfl rfl rfl (OpJ.eqAgg (d := 8) rfl (.inl rfl) rfl rfl (by decide) eq25 ty25 rfl eg25 rfl) ?_
      refine AList.c 38 rfl rfl rfl (OpJ.move rfl rfl) ?_
      refine AList.g 39 38 rfl rfl rfl rfl rfl rfl rfl [(14, _)] (fun h => And.intro (.inl rfl) (trivial)) (fun h => (OpJ.move rfl rfl)) ?_
      refine AList.g 40 38 rfl rfl rfl rfl rfl rfl rfl [(39, _)] (fun h => And.intro (.inr ⟨_, rfl, h⟩) (trivial)) (fun h => (OpJ.eql rfl rfl rfl)) ?_
      refine AList.g 41 38 rfl rfl rfl rfl rfl rfl rfl [(6, _)] (fun h => And.intro (.inl rfl) (trivial)) (fun h => (OpJ.load rfl rfl ty22 rfl)) ?_
      refine AList.g 42 38 rfl rfl rfl rfl rfl rfl rfl [(41, _)] (fun h => And.intro (.inr ⟨_, rfl, h⟩) (trivial)) (fun h => (OpJ.callP (rSacks_ok l hl) rfl rfl rfl rfl rf19)) ?_
      refine AList.g 43 38 rfl rfl rfl rfl rfl rfl rfl [(42, _)] (fun h => And.intro (.inr ⟨_, rfl, h⟩) (trivial)) (fun h => (OpJ.not_ rfl rfl)) ?_
      refine AList.g 44 38 rfl rfl rfl rfl rfl rfl rfl [(40, _), (43, _)] (fun h => And.intro (.inr ⟨_, rfl, h⟩) (And.intro (.inr ⟨_, rfl, h⟩) (trivial))) (fun h => (OpJ.eqBool rfl rfl rfl un4)) ?_
      refine AList.c 45 rfl rfl rfl (OpJ.and_ rfl rfl rfl ?_) ?_
      · first | (intro h; rw [h]; rfl) | (intro h; simp_all)
      refine AList.c 46 rfl rfl rfl (OpJ.move rfl rfl) ?_
      refine AList.g 47 46 rfl rfl rfl rfl rfl rfl rfl [] (fun h => trivial) (fun h => (OpJ.callP (awake_ok) rfl rfl rfl rfl rf10)) ?_
      refine AList.c 48 rfl rfl rfl (OpJ.and_ rfl rfl rfl ?_) ?_
      · first | (intro h; rw [h]; rfl) | (intro h; simp_all)
      refine AList.c 12 rfl rfl rfl (OpJ.assign rfl rfl) ?_
      refine AList.nil ?_
      refine AWp.ret ?_
      refine Fin.oneE rfl rfl ?_
      obtain ⟨b1, b2, b3⟩ := hb
      rw [b1, b2, b3]
      rfl
    · skip
      have hnb : ¬ mixE l i j t w = 1 ∧ ¬ mixE l i j t w = 2 := by simpa using hc1
      obtain ⟨hA, hG⟩ := mix_good hnb.1 hnb.2
      obtain ⟨gi, gj, hne, gt, hw⟩ := good_of hG
      have hf := mix_facts hA hG
      have hE : mixE l i j t w = 0 → (1 ≤ mixL l i j t w ∧ mixL l i j t w ≤ mixH l i j t w ∧ mixH l i j t w < t) := by rcases hf with ⟨h, _⟩ | ⟨_, a, c, e1, e2, h1, h2, h3, _⟩; { omega }; { omega }
      refine AWp.skip ?_
      refine AWp.seq ?_
      refine AWp.seq ?_
      refine AWp.region ?_
      refine AList.c 49 rfl rfl rfl (OpJ.load rfl rfl ty22 rfl) ?_
      refine AList.c 50 rfl rfl rfl (OpJ.callP (rSacks_ok l hl) rfl rfl rfl rfl rf19) ?_
      refine AList.c 51 rfl rfl rfl (OpJ.not_ rfl rfl) ?_
      refine AList.c 52 rfl rfl rfl (OpJ.move rfl rfl) ?_
      refine AList.g 53 52 rfl rfl rfl rfl rfl rfl rfl [(7, _)] (fun h => And.intro (.inl rfl) (trivial)) (fun h => (OpJ.load rfl rfl ty3 rfl)) ?_
      refine AList.g 54 52 rfl rfl rfl rfl rfl rfl rfl [(53, _)] (fun h => And.intro (.inr ⟨_, rfl, h⟩) (trivial)) (fun h => (OpJ.lss rfl rfl rfl)) ?_
      refine AList.c 55 rfl rfl rfl (OpJ.or_ rfl rfl rfl ?_) ?_
      · first | (intro h; rw [h]; rfl) | (intro h; simp_all)
      refine AList.c 56 rfl rfl rfl (OpJ.move rfl rfl) ?_
      refine AList.g 57 56 rfl rfl rfl rfl rfl rfl rfl [(7, _)] (fun h => And.intro (.inl rfl) (trivial)) (fun h => (OpJ.load rfl rfl ty3 rfl)) ?_
      refine AList.g 58 56 rfl rfl rfl rfl rfl rfl rfl [(6, _)] (fun h => And.intro (.inl rfl) (trivial)) (fun h => (OpJ.load rfl rfl ty22 rfl)) ?_
      refine AList.g 59 56 rfl rfl rfl rfl rfl rfl rfl [(58, _)] (fun h => And.intro (.inr ⟨_, rfl, h⟩) (trivial)) (fun h => (OpJ.lenSlice rfl rfl sl22 rfl)) ?_
      refine AList.g 60 56 rfl rfl rfl rfl rfl rfl rfl [(57, _), (59, _)] (fun h => And.intro (.inr ⟨_, rfl, h⟩) (And.intro (.inr ⟨_, rfl, h⟩) (trivial))) (fun h => (OpJ.geq rfl rfl rfl)) ?_
      refine AList.c 61 rfl rfl rfl (OpJ.or_ rfl rfl rfl ?_) ?_
      · first | (intro h; rw [h]; rfl) | (intro h; simp_all)
      refine AList.c 62 rfl rfl rfl (OpJ.move rfl rfl) ?_
      refine AList.g 63 62 rfl rfl rfl rfl rfl rfl rfl [(8, _)] (fun h => And.intro (.inl rfl) (trivial)) (fun h => (OpJ.load rfl rfl ty3 rfl)) ?_
      refine AList.g 64 62 rfl rfl rfl rfl rfl rfl rfl [(63, _)] (fun h => And.intro (.inr ⟨_, rfl, h⟩) (trivial)) (fun h => (OpJ.lss rfl rfl rfl)) ?_
      refine AList.c 65 rfl rfl rfl (OpJ.or_ rfl rfl rfl ?_) ?_
      · first | (intro h; rw [h]; rfl) | (intro h; simp_all)
      refine AList.c 66 rfl rfl rfl (OpJ.move rfl rfl) ?_
      refine AList.g 67 66 rfl rfl rfl rfl rfl rfl rfl [(8, _)] (fun h => And.intro (.inl rfl) (trivial)) (fun h => (OpJ.load rfl rfl ty3 rfl)) ?_
      refine AList.g 68 66 rfl rfl rfl rfl rfl rfl rfl [(6, _)] (fun h => And.intro (.inl rfl) (trivial)) (fun h => (OpJ.load rfl rfl ty22 rfl)) ?_
      refine AList.g 69 66 rfl rfl rfl rfl rfl rfl rfl [(68, _)] (fun h => And.intro (.inr ⟨_, rfl, h⟩) (trivial)) (fun h => (OpJ.lenSlice rfl rfl sl22 rfl)) ?_
      refine AList.g 70 66 rfl rfl rfl rfl rfl rfl rfl [(67, _), (69, _)] (fun h => And.intro (.inr ⟨_, rfl, h⟩) (And.intro (.inr ⟨_, rfl, h⟩) (trivial))) (fun h => (OpJ.geq rfl rfl rfl)) ?_
      refine AList.c 71 rfl rfl rfl (OpJ.or_ rfl rfl rfl ?_) ?_
      · first | (intro h; rw [h]; rfl) | (intro h; simp_all)
      refine AList.c 72 rfl rfl rfl (OpJ.move rfl rfl) ?_
      refine AList.g 73 72 rfl rfl rfl rfl rfl rfl rfl [(9, _)] (fun h => And.intro (.inl rfl) (trivial)) (fun h => (OpJ.load rfl rfl ty3 rfl)) ?_
      refine AList.g 74 72 rfl rfl rfl rfl rfl rfl rfl [(73, _)] (fun h => And.intro (.inr ⟨_, rfl, h⟩) (trivial)) (fun h => (OpJ.lss rfl rfl rfl)) ?_
      refine AList.c 75 rfl rfl rfl (OpJ.or_ rfl rfl rfl ?_) ?_
      · first | (intro h; rw [h]; rfl) | (intro h; simp_all)
      refine AList.c 76 rfl rfl rfl (OpJ.move rfl rfl) ?_
      refine AList.g 77 76 rfl rfl rfl rfl rfl rfl rfl [(9, _)] (fun h => And.intro (.inl rfl) (trivial)) (fun h => (OpJ.load rfl rfl ty3 rfl)) ?_
      refine AList.g 78 76 rfl rfl rfl rfl rfl rfl rfl [(77, _)] (fun h => And.intro (.inr ⟨_, rfl, h⟩) (trivial)) (fun h => (OpJ.gtr rfl rfl rfl)) ?_
      refine AList.c 79 rfl rfl rfl (OpJ.or_ rfl rfl rfl ?_) ?_
      · first | (intro h; rw [h]; rfl) | (intro h; simp_all)
      refine AList.c 80 rfl rfl rfl (OpJ.move rfl rfl) ?_
      refine AList.g 81 80 rfl rfl rfl rfl rfl rfl rfl [(14, _)] (fun h => And.intro (.inl rfl) (trivial)) (fun h => (OpJ.move rfl rfl)) ?_
      refine AList.g 82 80 rfl rfl rfl rfl rfl rfl rfl [(81, _)] (fun h => And.intro (.inr ⟨_, rfl, h⟩) (trivial)) (fun h => (OpJ.eql rfl rfl rfl)) ?_
      refine AList.g 83 80 rfl rfl rfl rfl rfl rfl rfl [(82, _)] (fun h => And.intro (.inr ⟨_, rfl, h⟩) (trivial)) (fun h => (OpJ.move rfl rfl)) ?_
      refine AList.g 84 83 rfl rfl rfl rfl rfl rfl rfl [(13, _)] (fun h => And.intro (.inl rfl) (trivial)) (fun h => (OpJ.fieldAddr rfl rfl fd25_0 rfl)) ?_
      refine AList.g 85 83 rfl rfl rfl rfl rfl rfl rfl [(84, _)] (fun h => And.intro (.inr ⟨_, rfl, h⟩) (trivial)) (fun h => (OpJ.load rfl rfl ty3 rfl)) ?_
      refine AList.g 86 83 rfl rfl rfl rfl rfl rfl rfl [(85, _)] (fun h => And.intro (.inr ⟨_, rfl, h⟩) (trivial)) (fun h => (OpJ.lss rfl rfl rfl)) ?_
      refine AList.g 87 83 rfl rfl rfl rfl rfl rfl rfl [(86, _)] (fun h => And.intro (.inr ⟨_, rfl, h⟩) (trivial)) (fun h => (OpJ.move rfl rfl)) ?_
      refine AList.g 88 87 rfl rfl rfl rfl rfl rfl rfl [(13, _)] (fun h => And.intro (.inl rfl) (trivial)) (fun h => (OpJ.fieldAddr rfl rfl fd25_0 rfl)) ?_
      refine AList.g 89 87 rfl rfl rfl rfl rfl rfl rfl [(88, _)] (fun h => And.intro (.inr ⟨_, rfl, h⟩) (trivial)) (fun h => (OpJ.load rfl rfl ty3 rfl)) ?_
      refine AList.g 90 87 rfl rfl rfl rfl rfl rfl rfl [(13, _)] (fun h => And.intro (.inl rfl) (trivial)) (fun h => (OpJ.fieldAddr rfl rfl fd25_1 rfl)) ?_
      refine AList.g 91 87 rfl rfl rfl rfl rfl rfl rfl [(90, _)] (fun h => And.intro (.inr ⟨_, rfl, h⟩) (trivial)) (fun h => (OpJ.load rfl rfl ty3 rfl)) ?_
      refine AList.g 92 87 rfl rfl rfl rfl rfl rfl rfl [(89, _), (91, _)] (fun h => And.intro (.inr ⟨_, rfl, h⟩) (And.intro (.inr ⟨_, rfl, h⟩) (trivial))) (fun h => (OpJ.gtr rfl rfl rfl)) ?_
      refine AList.g 93 83 rfl rfl rfl rfl rfl rfl rfl [(87, _), (92, _)] (fun h => And.intro (.inr ⟨_, rfl, h⟩) (And.intro (.inl rfl) (trivial))) (fun h => (OpJ.or_ rfl rfl rfl ?_)) ?_
      · first | (intro h; rw [h]; rfl) | (intro h; simp_all)
      refine AList.g 94 83 rfl rfl rfl rfl rfl rfl rfl [(93, _)] (fun h => And.intro (.inr ⟨_, rfl, h⟩) (trivial)) (fun h => (OpJ.move rfl rfl)) ?_
      refine AList.g 95 94 rfl rfl rfl rfl rfl rfl rfl [(13, _)] (fun h => And.intro (.inl rfl) (trivial)) (fun h => (OpJ.fieldAddr rfl rfl fd25_1 rfl)) ?_
      refine AList.g 96 94 rfl rfl rfl rfl rfl rfl rfl [(95, _)] (fun h => And.intro (.inr ⟨_, rfl, h⟩) (trivial)) (fun h => (OpJ.load rfl rfl ty3 rfl)) ?_
      refine AList.g 97 94 rfl rfl rfl rfl rfl rfl rfl [(9, _)] (fun h => And.intro (.inl rfl) (trivial)) (fun h => (OpJ.load rfl rfl ty3 rfl)) ?_
      refine AList.g 98 94 rfl rfl rfl rfl rfl rfl rfl [(96, _), (97, _)] (fun h => And.intro (.inr ⟨_, rfl, h⟩) (And.intro (.inr ⟨_, rfl, h⟩) (trivial))) (fun h => (OpJ.geq rfl rfl rfl)) ?_
      refine AList.g 99 83 rfl rfl rfl rfl rfl rfl rfl [(94, _), (98, _)] (fun h => And.intro (.inr ⟨_, rfl, h⟩) (And.intro (.inl rfl) (trivial))) (fun h => (OpJ.or_ rfl rfl rfl ?_)) ?_
      · first | (intro h; rw [h]; rfl) | (intro h; simp_all)
      refine AList.g 100 80 rfl rfl rfl rfl rfl rfl rfl [(83, _), (99, _)] (fun h => And.intro (.inr ⟨_, rfl, h⟩) (And.intro (.inl rfl) (trivial))) (fun h => (OpJ.and_ rfl rfl rfl ?_)) ?_
      · first | (intro h; rw [h]; rfl) | (intro h; simp_all)
      refine AList.c 101 rfl rfl rfl (OpJ.or_ rfl rfl rfl ?_) ?_
      · first | (intro h; rw [h]; rfl) | (intro h; simp_all)
      refine AList.nil ?_
      refine AWp.cond _ rfl (fun hc2 => ?_) (fun hc2 => ?_)
      · skip
        exfalso
        simp [hA] at hc2
        omega
      · skip
        have hm := Int.tmod_lt_of_pos y (show 0 < t - 1 by omega)
        have hm2 := Int.tmod_nonneg (t - 1) hy.1
        refine AWp.skip ?_
        refine AWp.seq ?_
        refine AWp.region ?_
        refine AList.c 102 rfl rfl rfl (OpJ.makeFunc rfl rfl rfl) ?_
        refine AList.c 15 rfl rfl rfl (OpJ.assign rfl rfl) ?_
        refine AList.nil ?_
        refine AWp.seq ?_
        refine AWp.region ?_
        refine AList.c 103 rfl rfl rfl (OpJ.move rfl rfl) ?_
        refine AList.c 104 rfl rfl rfl (OpJ.convInt rfl rfl (by rw [un54]; rfl) un3 (i64ok ?_)) ?_
        · omega
        refine AList.c 105 rfl rfl rfl (OpJ.load rfl rfl ty3 rfl) ?_
        refine AList.c 106 rfl rfl rfl (OpJ.sub_ rfl rfl rfl (i64ok ?_)) ?_
        · omega
        refine AList.c 107 rfl rfl rfl (OpJ.rem rfl rfl rfl ?_ rfl) ?_
        · omega
        refine AList.c 108 rfl rfl rfl (OpJ.add rfl rfl rfl (i64ok ?_)) ?_
        · omega
        refine AList.c 16 rfl rfl rfl (OpJ.assign rfl rfl) ?_
        refine AList.nil ?_
        refine AWp.seq ?_
        refine AWp.seq ?_
        refine AWp.region ?_
        refine AList.c 109 rfl rfl rfl (OpJ.move rfl rfl) ?_
        refine AList.c 110 rfl rfl rfl (OpJ.neq rfl rfl rfl) ?_
        refine AList.nil ?_
        refine AWp.cond _ rfl (fun hc3 => ?_) (fun hc3 => ?_)
        · skip
          refine AWp.seq ?_
          refine AWp.region ?_
          refine AList.c 111 rfl rfl rfl (OpJ.move rfl rfl) ?_
          refine AList.c 112 rfl rfl rfl (OpJ.eql rfl rfl rfl) ?_
          refine AList.c 113 rfl rfl rfl (OpJ.move rfl rfl) ?_
          refine AList.g 114 113 rfl rfl rfl rfl rfl rfl rfl [(15, _)] (fun h => And.intro (.inl rfl) (trivial)) (fun h => (OpJ.move rfl rfl)) ?_
          refine AList.g 115 113 rfl rfl rfl rfl rfl rfl rfl [(16, _)] (fun h => And.intro (.inl rfl) (trivial)) (fun h => (OpJ.move rfl rfl)) ?_
          refine AList.g 116 113 rfl rfl rfl rfl rfl rfl rfl [(114, _), (115, _)] (fun h => And.intro (.inr ⟨_, rfl, h⟩) (And.intro (.inr ⟨_, rfl, h⟩) (trivial))) (fun h => (OpJ.callF (mixed1_F l i j t w _ hl hA hG (by omega)) rfl rfl rfl)) ?_
          refine AList.g 117 113 rfl rfl rfl rfl rfl rfl rfl [(116, _)] (fun h => And.intro (.inr ⟨_, rfl, h⟩) (trivial)) (fun h => (OpJ.not_ rfl rfl)) ?_
          refine AList.c 118 rfl rfl rfl (OpJ.and_ rfl rfl rfl ?_) ?_
          · first | (intro h; rw [h]; rfl) | (intro h; simp_all)
          refine AList.c 119 rfl rfl rfl (OpJ.move rfl rfl) ?_
          refine AList.g 120 119 rfl rfl rfl rfl rfl rfl rfl [] (fun h => trivial) (fun h => (OpJ.callP (awake_ok) rfl rfl rfl rfl rf10)) ?_
          refine AList.c 121 rfl rfl rfl (OpJ.and_ rfl rfl rfl ?_) ?_
          · first | (intro h; rw [h]; rfl) | (intro h; simp_all)
          refine AList.c 12 rfl rfl rfl (OpJ.assign rfl rfl) ?_
          refine AList.nil ?_
          refine AWp.ret ?_
          refine Fin.oneE rfl rfl ?_
          have h4 : ¬ mixE l i j t w = 0 := by simpa using hc3
          rcases hf with ⟨h5, hno⟩ | ⟨h5, _⟩
          · have hw0 : withinB l i j t w (1 + y.tmod (t - 1)) = false := by unfold withinB; rw [hno _ (by omega) (by omega)]; simp
            rw [h5, hw0]; rfl
          · exact absurd h5 h4
        · skip
          have h0 : mixE l i j t w = 0 := by simpa using hc3
          have hE0 := hE h0
          obtain ⟨a, c, e1, e2, k1, k2, k3, k4⟩ : ∃ a c : Nat, mixL l i j t w = a ∧ mixH l i j t w = c ∧ 1 ≤ a ∧ a ≤ c ∧ (c : Int) < t ∧ ∀ k : Nat, 1 ≤ k → (k : Int) < t → (mixOk l i j t w k = true ↔ a ≤ k ∧ k ≤ c) := by rcases hf with ⟨h, _⟩ | ⟨_, h⟩; { omega }; { exact h }
          refine AWp.skip ?_
          refine AWp.seq ?_
          refine AWp.seq ?_
          refine AWp.regionDraw 28 mixed (by kernel_rfl) (by decide) ?_
          refine AQuiet.cons 122 rfl rfl rfl (OpJ.move rfl rfl) ?_
          refine AQuiet.cons 123 rfl rfl rfl (OpJ.move rfl rfl) ?_
          refine AQuiet.cons 124 rfl rfl rfl (OpJ.callF (mixed1_F l i j t w _ hl hA hG (by omega)) rfl rfl rfl) ?_
          refine AQuiet.cons 125 rfl rfl rfl (OpJ.move rfl rfl) ?_
          refine AQuiet.cons 126 rfl rfl rfl (OpJ.fieldAddr rfl rfl fd25_0 rfl) ?_
          refine AQuiet.cons 127 rfl rfl rfl (OpJ.load rfl rfl ty3 rfl) ?_
          refine AQuiet.cons 128 rfl rfl rfl (OpJ.geq rfl rfl rfl) ?_
          refine AQuiet.cons 129 rfl rfl rfl (OpJ.move rfl rfl) ?_
          refine AQuiet.guard 130 129 rfl rfl rfl rfl rfl rfl rfl [(16, _)] (fun h => And.intro (.inl rfl) (trivial)) (fun h => (OpJ.move rfl rfl)) ?_
          refine AQuiet.guard 131 129 rfl rfl rfl rfl rfl rfl rfl [(13, _)] (fun h => And.intro (.inl rfl) (trivial)) (fun h => (OpJ.fieldAddr rfl rfl fd25_1 rfl)) ?_
          refine AQuiet.guard 132 129 rfl rfl rfl rfl rfl rfl rfl [(131, _)] (fun h => And.intro (.inr ⟨_, rfl, h⟩) (trivial)) (fun h => (OpJ.load rfl rfl ty3 rfl)) ?_
          refine AQuiet.guard 133 129 rfl rfl rfl rfl rfl rfl rfl [(130, _), (132, _)] (fun h => And.intro (.inr ⟨_, rfl, h⟩) (And.intro (.inr ⟨_, rfl, h⟩) (trivial))) (fun h => (OpJ.leq rfl rfl rfl)) ?_
          refine AQuiet.cons 134 rfl rfl rfl (OpJ.and_ rfl rfl rfl ?_) ?_
          · first | (intro h; rw [h]; rfl) | (intro h; simp_all)
          refine AQuiet.cons 135 rfl rfl rfl (OpJ.neqBool rfl rfl rfl un4) ?_
          refine AQuiet.cons 136 rfl rfl rfl (OpJ.move rfl rfl) ?_
          refine AQuiet.guard 137 136 rfl rfl rfl rfl rfl rfl rfl [(15, _)] (fun h => And.intro (.inl rfl) (trivial)) (fun h => (OpJ.move rfl rfl)) ?_
          refine AQuiet.guard 138 136 rfl rfl rfl rfl rfl rfl rfl [(13, _)] (fun h => And.intro (.inl rfl) (trivial)) (fun h => (OpJ.fieldAddr rfl rfl fd25_0 rfl)) ?_
          refine AQuiet.guard 139 136 rfl rfl rfl rfl rfl rfl rfl [(138, _)] (fun h => And.intro (.inr ⟨_, rfl, h⟩) (trivial)) (fun h => (OpJ.load rfl rfl ty3 rfl)) ?_
          refine AQuiet.guard 140 136 rfl rfl rfl rfl rfl rfl rfl [(137, _), (139, _)] (fun h => And.intro (.inr ⟨_, rfl, h⟩) (And.intro (.inr ⟨_, rfl, h⟩) (trivial))) (fun h => (OpJ.callF (mixed1_F l i j t w _ hl hA hG (by omega)) rfl rfl rfl)) ?_
          refine AQuiet.guard 141 136 rfl rfl rfl rfl rfl rfl rfl [(140, _)] (fun h => And.intro (.inr ⟨_, rfl, h⟩) (trivial)) (fun h => (OpJ.not_ rfl rfl)) ?_
          refine AQuiet.cons 142 rfl rfl rfl (OpJ.or_ rfl rfl rfl ?_) ?_
          · first | (intro h; rw [h]; rfl) | (intro h; simp_all)
          refine AQuiet.cons 143 rfl rfl rfl (OpJ.move rfl rfl) ?_
          refine AQuiet.guard 144 143 rfl rfl rfl rfl rfl rfl rfl [(15, _)] (fun h => And.intro (.inl rfl) (trivial)) (fun h => (OpJ.move rfl rfl)) ?_
          refine AQuiet.guard 145 143 rfl rfl rfl rfl rfl rfl rfl [(13, _)] (fun h => And.intro (.inl rfl) (trivial)) (fun h => (OpJ.fieldAddr rfl rfl fd25_1 rfl)) ?_
          refine AQuiet.guard 146 143 rfl rfl rfl rfl rfl rfl rfl [(145, _)] (fun h => And.intro (.inr ⟨_, rfl, h⟩) (trivial)) (fun h => (OpJ.load rfl rfl ty3 rfl)) ?_
          refine AQuiet.guard 147 143 rfl rfl rfl rfl rfl rfl rfl [(144, _), (146, _)] (fun h => And.intro (.inr ⟨_, rfl, h⟩) (And.intro (.inr ⟨_, rfl, h⟩) (trivial))) (fun h => (OpJ.callF (mixed1_F l i j t w _ hl hA hG (by omega)) rfl rfl rfl)) ?_
          refine AQuiet.guard 148 143 rfl rfl rfl rfl rfl rfl rfl [(147, _)] (fun h => And.intro (.inr ⟨_, rfl, h⟩) (trivial)) (fun h => (OpJ.not_ rfl rfl)) ?_
          refine AQuiet.cons 149 rfl rfl rfl (OpJ.or_ rfl rfl rfl ?_) ?_
          · first | (intro h; rw [h]; rfl) | (intro h; simp_all)
          refine AQuiet.nil ?_
          refine AList.nil ?_
          refine AWp.cond _ rfl (fun hc4 => ?_) (fun hc4 => ?_)
          · skip
            exfalso
            have w0 := wi_in k1 k2 k3 k4 (n := 1 + y.tmod (t - 1)) (by omega) (by omega)
            have w1 := wi_in k1 k2 k3 k4 (n := (a : Int)) (by omega) (by omega)
            have w2 := wi_in k1 k2 k3 k4 (n := (c : Int)) (by omega) (by omega)
            rw [e1, e2] at hc4
            rw [w0, w1, w2] at hc4
            simp at hc4
            omega
          · skip
            refine AWp.skip ?_
            refine AWp.seq ?_
            refine AWp.region ?_
            refine AList.c 150 rfl rfl rfl (OpJ.fieldAddr rfl rfl fd25_0 rfl) ?_
            refine AList.c 151 rfl rfl rfl (OpJ.load rfl rfl ty3 rfl) ?_
            refine AList.c 152 rfl rfl rfl (OpJ.eql rfl rfl rfl) ?_
            refine AList.c 153 rfl rfl rfl (OpJ.move rfl rfl) ?_
            refine AList.g 154 153 rfl rfl rfl rfl rfl rfl rfl [(15, _)] (fun h => And.intro (.inl rfl) (trivial)) (fun h => (OpJ.move rfl rfl)) ?_
            refine AList.g 155 153 rfl rfl rfl rfl rfl rfl rfl [(13, _)] (fun h => And.intro (.inl rfl) (trivial)) (fun h => (OpJ.fieldAddr rfl rfl fd25_0 rfl)) ?_
            refine AList.g 156 153 rfl rfl rfl rfl rfl rfl rfl [(155, _)] (fun h => And.intro (.inr ⟨_, rfl, h⟩) (trivial)) (fun h => (OpJ.load rfl rfl ty3 rfl)) ?_
            refine AList.g 157 153 rfl rfl rfl rfl rfl rfl rfl [(156, _)] (fun h => And.intro (.inr ⟨_, rfl, h⟩) (trivial)) (fun h => (OpJ.sub_ rfl rfl rfl (i64ok (by omega)))) ?_
            refine AList.g 158 153 rfl rfl rfl rfl rfl rfl rfl [(154, _), (157, _)] (fun h => And.intro (.inr ⟨_, rfl, h⟩) (And.intro (.inr ⟨_, rfl, h⟩) (trivial))) (fun h => (OpJ.callF (mixed1_F l i j t w _ hl hA hG (by omega)) rfl rfl rfl)) ?_
            refine AList.g 159 153 rfl rfl rfl rfl rfl rfl rfl [(158, _)] (fun h => And.intro (.inr ⟨_, rfl, h⟩) (trivial)) (fun h => (OpJ.not_ rfl rfl)) ?_
            refine AList.c 160 rfl rfl rfl (OpJ.or_ rfl rfl rfl ?_) ?_
            · first | (intro h; rw [h]; rfl) | (intro h; simp_all)
            refine AList.c 161 rfl rfl rfl (OpJ.move rfl rfl) ?_
            refine AList.g 162 161 rfl rfl rfl rfl rfl rfl rfl [(13, _)] (fun h => And.intro (.inl rfl) (trivial)) (fun h => (OpJ.fieldAddr rfl rfl fd25_1 rfl)) ?_
            refine AList.g 163 161 rfl rfl rfl rfl rfl rfl rfl [(162, _)] (fun h => And.intro (.inr ⟨_, rfl, h⟩) (trivial)) (fun h => (OpJ.load rfl rfl ty3 rfl)) ?_
            refine AList.g 164 161 rfl rfl rfl rfl rfl rfl rfl [(9, _)] (fun h => And.intro (.inl rfl) (trivial)) (fun h => (OpJ.load rfl rfl ty3 rfl)) ?_
            refine AList.g 165 161 rfl rfl rfl rfl rfl rfl rfl [(164, _)] (fun h => And.intro (.inr ⟨_, rfl, h⟩) (trivial)) (fun h => (OpJ.sub_ rfl rfl rfl (i64ok (by omega)))) ?_
            refine AList.g 166 161 rfl rfl rfl rfl rfl rfl rfl [(163, _), (165, _)] (fun h => And.intro (.inr ⟨_, rfl, h⟩) (And.intro (.inr ⟨_, rfl, h⟩) (trivial))) (fun h => (OpJ.eql rfl rfl rfl)) ?_
            refine AList.g 167 161 rfl rfl rfl rfl rfl rfl rfl [(166, _)] (fun h => And.intro (.inr ⟨_, rfl, h⟩) (trivial)) (fun h => (OpJ.move rfl rfl)) ?_
            refine AList.g 168 167 rfl rfl rfl rfl rfl rfl rfl [(15, _)] (fun h => And.intro (.inl rfl) (trivial)) (fun h => (OpJ.move rfl rfl)) ?_
            refine AList.g 169 167 rfl rfl rfl rfl rfl rfl rfl [(13, _)] (fun h => And.intro (.inl rfl) (trivial)) (fun h => (OpJ.fieldAddr rfl rfl fd25_1 rfl)) ?_
            refine AList.g 170 167 rfl rfl rfl rfl rfl rfl rfl [(169, _)] (fun h => And.intro (.inr ⟨_, rfl, h⟩) (trivial)) (fun h => (OpJ.load rfl rfl ty3 rfl)) ?_
            refine AList.g 171 167 rfl rfl rfl rfl rfl rfl rfl [(170, _)] (fun h => And.intro (.inr ⟨_, rfl, h⟩) (trivial)) (fun h => (OpJ.add rfl rfl rfl (i64ok (by omega)))) ?_
            refine AList.g 172 167 rfl rfl rfl rfl rfl rfl rfl [(168, _), (171, _)] (fun h => And.intro (.inr ⟨_, rfl, h⟩) (And.intro (.inr ⟨_, rfl, h⟩) (trivial))) (fun h => (OpJ.callF (mixed1_F l i j t w _ hl hA hG (by omega)) rfl rfl rfl)) ?_
            refine AList.g 173 167 rfl rfl rfl rfl rfl rfl rfl [(172, _)] (fun h => And.intro (.inr ⟨_, rfl, h⟩) (trivial)) (fun h => (OpJ.not_ rfl rfl)) ?_
            refine AList.g 174 161 rfl rfl rfl rfl rfl rfl rfl [(167, _), (173, _)] (fun h => And.intro (.inr ⟨_, rfl, h⟩) (And.intro (.inl rfl) (trivial))) (fun h => (OpJ.or_ rfl rfl rfl ?_)) ?_
            · first | (intro h; rw [h]; rfl) | (intro h; simp_all)
            refine AList.c 175 rfl rfl rfl (OpJ.and_ rfl rfl rfl ?_) ?_
            · first | (intro h; rw [h]; rfl) | (intro h; simp_all)
            refine AList.c 176 rfl rfl rfl (OpJ.move rfl rfl) ?_
            refine AList.g 177 176 rfl rfl rfl rfl rfl rfl rfl [] (fun h => trivial) (fun h => (OpJ.callP (awake_ok) rfl rfl rfl rfl rf10)) ?_
            refine AList.c 178 rfl rfl rfl (OpJ.and_ rfl rfl rfl ?_) ?_
            · first | (intro h; rw [h]; rfl) | (intro h; simp_all)
            refine AList.c 12 rfl rfl rfl (OpJ.assign rfl rfl) ?_
            refine AList.nil ?_
            refine AWp.ret ?_
            refine Fin.oneE rfl rfl ?_
            have w3 := wi_out k1 k2 k3 k4 (n := (a : Int) - 1) (by omega)
            have w4 := wi_out k1 k2 k3 k4 (n := (c : Int) + 1) (by omega)
            rw [e1, e2, w3, w4]
            simp
theorem sackMixed_law {x0 x1 x2 x3 x4 x5 : List PV} (h0 : TyL [.sl [.leaf (.int .i64), .leaf (.int .i64), .leaf (.int .i64), .leaf (.int .i64), .leaf (.int .i64), .leaf (.int .i64)]] x0) (h1 : TyL [.leaf (.int .i64)] x1) (h2 : TyL [.leaf (.int .i64)] x2) (h3 : TyL [.leaf (.int .i64)] x3) (h4 : TyL [.leaf (.int .i64), .leaf (.int .i64)] x4) (h5 : TyL [.leaf (.int .u32)] x5) : Pure Try.prog 8 [argP false x0, argP false x1, argP false x2, argP false x3, argP true x4, argP false x5] (.bool true) := by
  obtain ⟨l, rfl, hl⟩ := sl_of (fun _ => sk_of) h0
  obtain ⟨i, rfl⟩ := int_of h1
  obtain ⟨j, rfl⟩ := int_of h2
  obtain ⟨t, rfl⟩ := int_of h3
  obtain ⟨w, rfl⟩ := two_of h4
  obtain ⟨y, rfl, hy⟩ := u32_of h5
  exact SackMixed_ok l i j t w y hy
end Go.Proofs.Ytmcejcidbekpkaa
