/-
  What a sack can be: the states that are yielded.
-/
import Derived.Test.YtmcejcidbekpkaaSkFacts
import Derived.Test.YtmcejcidbekpkaaSkD
import Derived.Test.YtmcejcidbekpkaaSk1
set_option linter.unusedVariables false
set_option maxRecDepth 100000
set_option maxHeartbeats 4000000
set_option linter.unusedSimpArgs false
namespace Go.Proofs.Ytmcejcidbekpkaa
open Go.AF
theorem states_seq (s : Sk) (m : Sp) : ASeq Try.prog 77 (fun y => [y, .p (.ip (storeCells s m) 0)]) (statesL s) := by
  intro l κ n inv fin hκ hn hfin hb h0 hi0
  refine ACallsK.of_body (N := 55) Try.func77 rfl rfl (Nat.le_of_ble_eq_true rfl) ?_
  refine AWp.seq ?_
  refine AWp.region ?_
  refine AList.c 9 rfl rfl rfl (OpJ.fieldAddr rfl rfl fd96_0 rfl) ?_
  refine AList.c 10 rfl rfl rfl (OpJ.fieldAddr rfl rfl fd57_0 rfl) ?_
  refine AList.c 11 rfl rfl rfl (OpJ.fieldAddr rfl rfl fd25_0 rfl) ?_
  refine AList.c 12 rfl rfl rfl (OpJ.load rfl rfl ty3 rfl) ?_
  refine AList.c 13 rfl rfl rfl (OpJ.fieldAddr rfl rfl fd96_0 rfl) ?_
  refine AList.c 14 rfl rfl rfl (OpJ.fieldAddr rfl rfl fd57_0 rfl) ?_
  refine AList.c 15 rfl rfl rfl (OpJ.fieldAddr rfl rfl fd25_1 rfl) ?_
  refine AList.c 16 rfl rfl rfl (OpJ.load rfl rfl ty3 rfl) ?_
  refine AList.c 17 rfl rfl rfl (OpJ.build rfl bd105 rfl rfl) ?_
  refine AList.c 18 rfl rfl rfl (OpJ.move rfl rfl) ?_
  refine AList.nil ?_
  refine AWp.block ?_
  refine AWp.loopH [4, 6, 8, 18, 19, 20, 21, 22, 23, 24, 25, 26, 27, 28, 29, 30, 31, 32, 33, 34, 35, 36, 37, 38, 39, 40, 41, 42, 43, 44, 45, 46, 47, 48, 49, 50, 51, 52, 53, 54] (fun g => [(18, .p (.int .i64 ((g.1 : Nat) : Int)))]) (fun g => g.2) (fun g => g.1 ≤ 2 ∧ inv (4 * g.1) g.2) (fun g => 2 - g.1) (0, h0) ⟨by omega, hi0⟩ (To.sub (Sub.chd (Sub.cons rfl (Sub.nil)))) (fun g hg => ?_)
  obtain ⟨i, hi⟩ := g
  obtain ⟨hle, hinv⟩ := hg
  dsimp only at hle hinv ⊢
  refine AWp.seq ?_
  refine AWp.region ?_
  refine AList.c 19 rfl rfl rfl (OpJ.lss rfl rfl rfl) ?_
  refine AList.nil ?_
  refine AWp.seq ?_
  refine AWp.cond _ rfl (fun hc0 => ?_) (fun hc0 => ?_)
  · skip
    have i2 : i < 2 := by simp at hc0; omega
    refine AWp.skip ?_
    refine AWp.seq ?_
    refine AWp.block ?_
    refine AWp.seq ?_
    refine AWp.region ?_
    refine AList.c 20 rfl rfl rfl (OpJ.indexPair rfl rfl rfl av105 (by omega) ?_) ?_
    · omega
    refine AList.c 4 rfl rfl rfl (OpJ.assign rfl rfl) ?_
    refine AList.nil ?_
    refine AWp.seq ?_
    refine AWp.region ?_
    refine AList.c 21 rfl rfl rfl (OpJ.fieldAddr rfl rfl fd96_0 rfl) ?_
    refine AList.c 22 rfl rfl rfl (OpJ.fieldAddr rfl rfl fd57_1 rfl) ?_
    refine AList.c 23 rfl rfl rfl (OpJ.fieldAddr rfl rfl fd25_0 rfl) ?_
    refine AList.c 24 rfl rfl rfl (OpJ.load rfl rfl ty3 rfl) ?_
    refine AList.c 25 rfl rfl rfl (OpJ.fieldAddr rfl rfl fd96_0 rfl) ?_
    refine AList.c 26 rfl rfl rfl (OpJ.fieldAddr rfl rfl fd57_1 rfl) ?_
    refine AList.c 27 rfl rfl rfl (OpJ.fieldAddr rfl rfl fd25_1 rfl) ?_
    refine AList.c 28 rfl rfl rfl (OpJ.load rfl rfl ty3 rfl) ?_
    refine AList.c 29 rfl rfl rfl (OpJ.build rfl bd105 rfl rfl) ?_
    refine AList.c 30 rfl rfl rfl (OpJ.move rfl rfl) ?_
    refine AList.nil ?_
    refine AWp.block ?_
    refine AWp.loopH [6, 8, 30, 31, 32, 33, 34, 35, 36, 37, 38, 39, 40, 41, 42, 43, 44, 45, 46, 47, 48, 49, 50, 51, 52, 53] (fun g => [(30, .p (.int .i64 ((g.1 : Nat) : Int)))]) (fun g => g.2) (fun g => g.1 ≤ 2 ∧ inv (4 * i + 2 * g.1) g.2) (fun g => 2 - g.1) (0, hi) ⟨by omega, hinv⟩ (To.sub (Sub.chd (Sub.cons rfl (Sub.nil)))) (fun g hg => ?_)
    obtain ⟨j, hj⟩ := g
    obtain ⟨hle, hinv⟩ := hg
    dsimp only at hle hinv ⊢
    refine AWp.seq ?_
    refine AWp.region ?_
    refine AList.c 31 rfl rfl rfl (OpJ.lss rfl rfl rfl) ?_
    refine AList.nil ?_
    refine AWp.seq ?_
    refine AWp.cond _ rfl (fun hc1 => ?_) (fun hc1 => ?_)
    · skip
      have j2 : j < 2 := by simp at hc1; omega
      refine AWp.skip ?_
      refine AWp.seq ?_
      refine AWp.block ?_
      refine AWp.seq ?_
      refine AWp.region ?_
      refine AList.c 32 rfl rfl rfl (OpJ.indexPair rfl rfl rfl av105 (by omega) ?_) ?_
      · omega
      refine AList.c 6 rfl rfl rfl (OpJ.assign rfl rfl) ?_
      refine AList.nil ?_
      refine AWp.seq ?_
      refine AWp.region ?_
      refine AList.c 33 rfl rfl rfl (OpJ.fieldAddr rfl rfl fd96_0 rfl) ?_
      refine AList.c 34 rfl rfl rfl (OpJ.fieldAddr rfl rfl fd57_2 rfl) ?_
      refine AList.c 35 rfl rfl rfl (OpJ.fieldAddr rfl rfl fd25_0 rfl) ?_
      refine AList.c 36 rfl rfl rfl (OpJ.load rfl rfl ty3 rfl) ?_
      refine AList.c 37 rfl rfl rfl (OpJ.fieldAddr rfl rfl fd96_0 rfl) ?_
      refine AList.c 38 rfl rfl rfl (OpJ.fieldAddr rfl rfl fd57_2 rfl) ?_
      refine AList.c 39 rfl rfl rfl (OpJ.fieldAddr rfl rfl fd25_1 rfl) ?_
      refine AList.c 40 rfl rfl rfl (OpJ.load rfl rfl ty3 rfl) ?_
      refine AList.c 41 rfl rfl rfl (OpJ.build rfl bd105 rfl rfl) ?_
      refine AList.c 42 rfl rfl rfl (OpJ.move rfl rfl) ?_
      refine AList.nil ?_
      refine AWp.block ?_
      refine AWp.loopH [8, 42, 43, 44, 45, 46, 47, 48, 49, 50, 51, 52] (fun g => [(42, .p (.int .i64 ((g.1 : Nat) : Int)))]) (fun g => g.2) (fun g => g.1 ≤ 2 ∧ inv (4 * i + 2 * j + g.1) g.2) (fun g => 2 - g.1) (0, hj) ⟨by omega, hinv⟩ (To.sub (Sub.chd (Sub.cons rfl (Sub.nil)))) (fun g hg => ?_)
      obtain ⟨k, hk⟩ := g
      obtain ⟨hle, hinv⟩ := hg
      dsimp only at hle hinv ⊢
      refine AWp.seq ?_
      refine AWp.region ?_
      refine AList.c 43 rfl rfl rfl (OpJ.lss rfl rfl rfl) ?_
      refine AList.nil ?_
      refine AWp.seq ?_
      refine AWp.cond _ rfl (fun hc2 => ?_) (fun hc2 => ?_)
      · skip
        have k2 : k < 2 := by simp at hc2; omega
        refine AWp.skip ?_
        refine AWp.seq ?_
        refine AWp.block ?_
        refine AWp.seq ?_
        refine AWp.region ?_
        refine AList.c 44 rfl rfl rfl (OpJ.indexPair rfl rfl rfl av105 (by omega) ?_) ?_
        · omega
        refine AList.c 8 rfl rfl rfl (OpJ.assign rfl rfl) ?_
        refine AList.nil ?_
        refine AWp.seq ?_
        refine AWp.region ?_
        refine AList.c 45 rfl rfl rfl (OpJ.move rfl rfl) ?_
        refine AList.c 46 rfl rfl rfl (OpJ.move rfl rfl) ?_
        refine AList.c 47 rfl rfl rfl (OpJ.move rfl rfl) ?_
        refine AList.c 48 rfl rfl rfl (OpJ.move rfl rfl) ?_
        refine AList.c 49 rfl rfl rfl (OpJ.build rfl bd71 rfl rfl) ?_
        refine AList.yield 50 rfl rfl rfl rfl rfl rfl (hb _ _ _ hinv (statesL_get s i2 j2 k2)) ?_
        intro b2 h2 hq2
        refine AList.c 51 rfl rfl rfl (OpJ.not_ rfl rfl) ?_
        refine AList.nil ?_
        refine AWp.cond _ rfl (fun hc3 => ?_) (fun hc3 => ?_)
        · skip
          have hq : fin h2 := by simpa [show b2 = false by simpa using hc3] using hq2
          refine AWp.ret ?_
          exact ⟨.inr rfl, _, resV.none_ rfl, .inr hq⟩
        · skip
          have hnext : inv (4 * i + 2 * j + k + 1) h2 := by simpa [show b2 = true by simpa using hc3] using hq2
          refine AWp.skip ?_
          refine AWp.region ?_
          refine AList.c 52 rfl rfl rfl (OpJ.add rfl rfl rfl (i64ok ?_)) ?_
          · omega
          refine AList.c 42 rfl rfl rfl (OpJ.move rfl rfl) ?_
          refine AList.nil ?_
          refine ⟨(k + 1, h2), ?_, ?_, ?_⟩
          · exact ⟨by dsimp only; omega, hnext⟩
          · show 2 - (k + 1) < 2 - k
            omega
          exact To.sub (by repeat (first | exact Sub.nil | refine Sub.cons rfl ?_))
      · skip
        refine AWp.exit ?_
        refine AWp.region ?_
        refine AList.c 53 rfl rfl rfl (OpJ.add rfl rfl rfl (i64ok ?_)) ?_
        · omega
        refine AList.c 30 rfl rfl rfl (OpJ.move rfl rfl) ?_
        refine AList.nil ?_
        refine ⟨(j + 1, hk), ?_, ?_, ?_⟩
        · have hk2 : k = 2 := by simp at hc2; omega
          subst hk2
          exact ⟨by dsimp only; omega, by rw [show 4 * i + 2 * (j + 1, hk).1 = 4 * i + 2 * j + 2 by dsimp only; omega]; exact hinv⟩
        · show 2 - (j + 1) < 2 - j
          omega
        exact To.sub (by repeat (first | exact Sub.nil | refine Sub.cons rfl ?_))
    · skip
      refine AWp.exit ?_
      refine AWp.region ?_
      refine AList.c 54 rfl rfl rfl (OpJ.add rfl rfl rfl (i64ok ?_)) ?_
      · omega
      refine AList.c 18 rfl rfl rfl (OpJ.move rfl rfl) ?_
      refine AList.nil ?_
      refine ⟨(i + 1, hj), ?_, ?_, ?_⟩
      · have hj2 : j = 2 := by simp at hc1; omega
        subst hj2
        exact ⟨by dsimp only; omega, by rw [show 4 * (i + 1, hj).1 = 4 * i + 2 * 2 by dsimp only; omega]; exact hinv⟩
      · show 2 - (i + 1) < 2 - i
        omega
      exact To.sub (by repeat (first | exact Sub.nil | refine Sub.cons rfl ?_))
  · skip
    refine AWp.exit ?_
    have hi2 : i = 2 := by simp at hc0; omega
    subst hi2
    exact ⟨.inl rfl, _, resV.none_ rfl, .inl (by simpa [statesL] using hinv)⟩
end Go.Proofs.Ytmcejcidbekpkaa
