/-
  The law and its reference: small things.
  Sameness.
  Sameness of reports; what the law fixes.
  The reference: readers.
-/
import Derived.Test.YtplofbjppcbchaaDoorMzVD
import Derived.Test.YtplofbjppcbchaaDoorMzVP
section
set_option linter.unusedVariables false
set_option maxRecDepth 100000
set_option maxHeartbeats 4000000
set_option linter.unusedSimpArgs false
namespace Go.Proofs.YtplofbjppcbchaaDoor
open Go.AF
theorem lspan_ok (a b : Int) : Pure Tryd.prog 39 [.int .i64 a, .int .i64 b] (.agg [.int .i64 a, .int .i64 b]) := by
  refine Pure.start (N := 8) Tryd.func39 rfl rfl (Nat.le_of_ble_eq_true rfl) ?_
  refine AWp.seq ?_
  refine AWp.region ?_
  refine AList.c 4 rfl rfl rfl (OpJ.allocOwn rfl zr31 rfl) ?_
  refine AList.nil ?_
  refine AWp.seq ?_
  refine AWp.region ?_
  refine AList.c 5 rfl rfl rfl (OpJ.move rfl rfl) ?_
  refine AList.c 6 rfl rfl rfl (OpJ.move rfl rfl) ?_
  refine AList.c 7 rfl rfl rfl (OpJ.build rfl bd31 rfl rfl) ?_
  refine AList.c0 rfl rfl (OpJ.store rfl rfl rfl rfl rfl ty31 rfl rfl) ?_
  refine AList.nil ?_
  refine AWp.ret ?_
  exact Fin.one rfl (⟨_, _, _, rfl, ty31, rfl⟩)
theorem rin_ok (n a b : Int) : Pure Tryd.prog 84 [.int .i64 n, .int .i64 a, .int .i64 b] (.bool (inB n a b)) := by
  refine Pure.start (N := 15) Tryd.func84 rfl rfl (Nat.le_of_ble_eq_true rfl) ?_
  refine AWp.seq ?_
  refine AWp.region ?_
  refine AList.c 6 rfl rfl rfl (OpJ.assign rfl rfl) ?_
  refine AList.nil ?_
  refine AWp.seq ?_
  refine AWp.region ?_
  refine AList.c 7 rfl rfl rfl (OpJ.move rfl rfl) ?_
  refine AList.c 8 rfl rfl rfl (OpJ.move rfl rfl) ?_
  refine AList.c 9 rfl rfl rfl (OpJ.leq rfl rfl rfl) ?_
  refine AList.c 10 rfl rfl rfl (OpJ.move rfl rfl) ?_
  refine AList.g 11 10 rfl rfl rfl rfl rfl rfl rfl [(0, _)] (fun h => And.intro (.inl rfl) (trivial)) (fun h => (OpJ.move rfl rfl)) ?_
  refine AList.g 12 10 rfl rfl rfl rfl rfl rfl rfl [(2, _)] (fun h => And.intro (.inl rfl) (trivial)) (fun h => (OpJ.move rfl rfl)) ?_
  refine AList.g 13 10 rfl rfl rfl rfl rfl rfl rfl [(11, _), (12, _)] (fun h => And.intro (.inr ⟨_, rfl, h⟩) (And.intro (.inr ⟨_, rfl, h⟩) (trivial))) (fun h => (OpJ.leq rfl rfl rfl)) ?_
  refine AList.c 14 rfl rfl rfl (OpJ.and_ rfl rfl rfl ?_) ?_
  · first | (intro h; rw [h]; rfl) | (intro h; simp_all)
  refine AList.c 6 rfl rfl rfl (OpJ.assign rfl rfl) ?_
  refine AList.nil ?_
  refine AWp.ret ?_
  exact Fin.oneE rfl rfl rfl
theorem lcards_ok  : Pure Tryd.prog 15 [] (crdsV [⟨5, 300, 2, 5, 200⟩, ⟨7, 301, 0, 0, 5⟩]) := by
  refine Pure.start (N := 4) Tryd.func15 rfl rfl (Nat.le_of_ble_eq_true rfl) ?_
  refine AWp.seq ?_
  refine AWp.region ?_
  refine AList.c 0 rfl rfl rfl (OpJ.assign rfl rfl) ?_
  refine AList.nil ?_
  refine AWp.seq ?_
  refine AWp.region ?_
  refine AList.c 1 rfl rfl rfl (OpJ.build rfl bd76 rfl rfl) ?_
  refine AList.c 2 rfl rfl rfl (OpJ.build rfl bd76 rfl rfl) ?_
  refine AList.c 3 rfl rfl rfl (OpJ.buildImm rfl slz23 (by decide) rfl rfl rfl) ?_
  refine AList.c 0 rfl rfl rfl (OpJ.assign rfl rfl) ?_
  refine AList.nil ?_
  refine AWp.ret ?_
  exact Fin.one rfl (rfl)
theorem lpacks_ok  : Pure Tryd.prog 16 [] (pcksV [⟨7, [0, 1, 2, 3, 5, 8, 8]⟩, ⟨9, [4, 4, 4, 5, 6, 7]⟩, ⟨10, [1, 2, 4]⟩]) := by
  refine Pure.start (N := 8) Tryd.func16 rfl rfl (Nat.le_of_ble_eq_true rfl) ?_
  refine AWp.seq ?_
  refine AWp.region ?_
  refine AList.c 0 rfl rfl rfl (OpJ.assign rfl rfl) ?_
  refine AList.nil ?_
  refine AWp.seq ?_
  refine AWp.region ?_
  refine AList.c 1 rfl rfl rfl (OpJ.buildImm rfl slz34 (by decide) rfl rfl rfl) ?_
  refine AList.c 2 rfl rfl rfl (OpJ.build rfl bd36 rfl rfl) ?_
  refine AList.c 3 rfl rfl rfl (OpJ.buildImm rfl slz34 (by decide) rfl rfl rfl) ?_
  refine AList.c 4 rfl rfl rfl (OpJ.build rfl bd36 rfl rfl) ?_
  refine AList.c 5 rfl rfl rfl (OpJ.buildImm rfl slz34 (by decide) rfl rfl rfl) ?_
  refine AList.c 6 rfl rfl rfl (OpJ.build rfl bd36 rfl rfl) ?_
  refine AList.c 7 rfl rfl rfl (OpJ.buildImm rfl slz24 (by decide) rfl rfl rfl) ?_
  refine AList.c 0 rfl rfl rfl (OpJ.assign rfl rfl) ?_
  refine AList.nil ?_
  refine AWp.ret ?_
  exact Fin.oneE rfl rfl rfl
theorem lreports_ok  : Pure Tryd.prog 14 [] (rptsV [⟨12, [⟨⟨40, 45⟩, ⟨500, 500⟩⟩, ⟨⟨70, 80⟩, ⟨900, 1000⟩⟩], ⟨150, 160⟩, ⟨30, 30⟩⟩, ⟨15, [], ⟨100, 100⟩, ⟨0, 5⟩⟩]) := by
  refine Pure.start (N := 15) Tryd.func14 rfl rfl (Nat.le_of_ble_eq_true rfl) ?_
  refine AWp.seq ?_
  refine AWp.region ?_
  refine AList.c 0 rfl rfl rfl (OpJ.assign rfl rfl) ?_
  refine AList.nil ?_
  refine AWp.seq ?_
  refine AWp.region ?_
  refine AList.c 1 rfl rfl rfl (OpJ.callP (lspan_ok _ _) rfl rfl rfl rfl rf39) ?_
  refine AList.c 2 rfl rfl rfl (OpJ.callP (lspan_ok _ _) rfl rfl rfl rfl rf39) ?_
  refine AList.c 3 rfl rfl rfl (OpJ.callP (lspan_ok _ _) rfl rfl rfl rfl rf39) ?_
  refine AList.c 4 rfl rfl rfl (OpJ.callP (lspan_ok _ _) rfl rfl rfl rfl rf39) ?_
  refine AList.c 5 rfl rfl rfl (OpJ.build rfl bd65 rfl rfl) ?_
  refine AList.c 6 rfl rfl rfl (OpJ.callP (lspan_ok _ _) rfl rfl rfl rfl rf39) ?_
  refine AList.c 7 rfl rfl rfl (OpJ.callP (lspan_ok _ _) rfl rfl rfl rfl rf39) ?_
  refine AList.c 8 rfl rfl rfl (OpJ.build rfl bd65 rfl rfl) ?_
  refine AList.c 9 rfl rfl rfl (OpJ.buildImm rfl slz29 (by decide) rfl rfl rfl) ?_
  refine AList.c 10 rfl rfl rfl (OpJ.build rfl bd33 rfl rfl) ?_
  refine AList.c 11 rfl rfl rfl (OpJ.callP (lspan_ok _ _) rfl rfl rfl rfl rf39) ?_
  refine AList.c 12 rfl rfl rfl (OpJ.callP (lspan_ok _ _) rfl rfl rfl rfl rf39) ?_
  refine AList.c 13 rfl rfl rfl (OpJ.build rfl bd33 rfl rfl) ?_
  refine AList.to (To.wkS 13 rfl) ?_
  refine AList.c 14 rfl rfl rfl (OpJ.buildImm rfl slz22 (by decide) rfl rfl rfl) ?_
  refine AList.c 0 rfl rfl rfl (OpJ.assign rfl rfl) ?_
  refine AList.nil ?_
  refine AWp.ret ?_
  exact Fin.oneE rfl rfl rfl
end Go.Proofs.YtplofbjppcbchaaDoor
end

section
set_option linter.unusedVariables false
set_option maxRecDepth 100000
set_option maxHeartbeats 4000000
set_option linter.unusedSimpArgs false
namespace Go.Proofs.YtplofbjppcbchaaDoor
open Go.AF
theorem ints_ok (a b : List Int) (hla : a.length ≤ bigN) (hlb : b.length ≤ bigN) : Pure Tryd.prog 38 [intsV a, intsV b] (.bool (decide (a = b))) := by
  have hla2 := hla
  have hlb2 := hlb
  unfold bigN at hla2 hlb2
  refine Pure.start (N := 26) Tryd.func38 rfl rfl (Nat.le_of_ble_eq_true rfl) ?_
  refine AWp.seq ?_
  refine AWp.region ?_
  refine AList.c 4 rfl rfl rfl (OpJ.assign rfl rfl) ?_
  refine AList.nil ?_
  refine AWp.seq ?_
  refine AWp.seq ?_
  refine AWp.region ?_
  refine AList.c 6 rfl rfl rfl (OpJ.move rfl rfl) ?_
  refine AList.c 7 rfl rfl rfl (OpJ.lenSlice rfl rfl sl34 rfl) ?_
  refine AList.c 8 rfl rfl rfl (OpJ.move rfl rfl) ?_
  refine AList.c 9 rfl rfl rfl (OpJ.lenSlice rfl rfl sl34 rfl) ?_
  refine AList.c 10 rfl rfl rfl (OpJ.neq rfl rfl rfl) ?_
  refine AList.nil ?_
  refine AWp.cond _ rfl (fun hc0 => ?_) (fun hc0 => ?_)
  · skip
    have hl : a.length ≠ b.length := by simp at hc0; omega
    refine AWp.seq ?_
    refine AWp.region ?_
    refine AList.c 4 rfl rfl rfl (OpJ.assign rfl rfl) ?_
    refine AList.nil ?_
    refine AWp.ret ?_
    refine Fin.oneE rfl rfl ?_
    rw [decide_eq_false (fun h => hl (by rw [h]))]
  · skip
    have hl : a.length = b.length := by simp at hc0; omega
    refine AWp.skip ?_
    refine AWp.seq ?_
    refine AWp.seq ?_
    refine AWp.region ?_
    refine AList.c 5 rfl rfl rfl (OpJ.assign rfl rfl) ?_
    refine AList.nil ?_
    refine AWp.block ?_
    refine AWp.loopHL [0, 1] (fun g => [(5, .p (.int .i64 ((g : Nat) : Int)))]) (fun g => []) (fun g => g ≤ a.length ∧ a.take g = b.take g) (fun g => a.length - g) 0 ⟨Nat.zero_le _, rfl⟩ (To.sub (Sub.chk (Sub.cons rfl (Sub.nil)))) (fun i ⟨hi, hI⟩ => ?_)
    refine AWp.seq ?_
    refine AWp.seq ?_
    refine AWp.region ?_
    refine AList.c 11 rfl rfl rfl (OpJ.move rfl rfl) ?_
    refine AList.c 12 rfl rfl rfl (OpJ.move rfl rfl) ?_
    refine AList.c 13 rfl rfl rfl (OpJ.lenSlice rfl rfl sl34 rfl) ?_
    refine AList.c 14 rfl rfl rfl (OpJ.lss rfl rfl rfl) ?_
    refine AList.nil ?_
    refine AWp.cond _ rfl (fun hc1 => ?_) (fun hc1 => ?_)
    · skip
      have hk0 : i < a.length := by have h := of_decide_eq_true hc1; omega
      refine AWp.skip ?_
      refine AWp.seq ?_
      refine AWp.block ?_
      refine AWp.seq ?_
      refine AWp.regionDraw 9 mixed (by kernel_rfl) (by decide) ?_
      refine AQuiet.cons 17 rfl rfl rfl (OpJ.move rfl rfl) ?_
      refine AQuiet.cons 18 rfl rfl rfl (OpJ.move rfl rfl) ?_
      refine AQuiet.cons 19 rfl rfl rfl (OpJ.indexG (g := gt 0 a) (gt_get _) rfl rfl rfl sl34 el34 rfl (fun _ => rfl) (by decide) hk0) ?_
      refine AQuiet.cons 20 rfl rfl rfl (OpJ.load (v := .p (.int .i64 (gt 0 a i))) rfl rfl ty3 rfl) ?_
      refine AQuiet.cons 21 rfl rfl rfl (OpJ.move rfl rfl) ?_
      refine AQuiet.cons 22 rfl rfl rfl (OpJ.move rfl rfl) ?_
      refine AQuiet.cons 23 rfl rfl rfl (OpJ.indexG (g := gt 0 b) (gt_get _) rfl rfl rfl sl34 el34 rfl (fun _ => rfl) (by decide) (by omega)) ?_
      refine AQuiet.cons 24 rfl rfl rfl (OpJ.load (v := .p (.int .i64 (gt 0 b i))) rfl rfl ty3 rfl) ?_
      refine AQuiet.cons 25 rfl rfl rfl (OpJ.neq rfl rfl rfl) ?_
      refine AQuiet.nil ?_
      refine AList.nil ?_
      refine AWp.cond _ rfl (fun hc2 => ?_) (fun hc2 => ?_)
      · skip
        have he : gt 0 a i ≠ gt 0 b i := by simpa using hc2
        refine AWp.seq ?_
        refine AWp.region ?_
        refine AList.c 4 rfl rfl rfl (OpJ.assign rfl rfl) ?_
        refine AList.nil ?_
        refine AWp.ret ?_
        refine Fin.oneE rfl rfl ?_
        rw [decide_eq_false (same_no 0 he)]
      · skip
        have he : gt 0 a i = gt 0 b i := by simpa using hc2
        refine AWp.skip ?_
        refine AWp.region ?_
        refine AList.c 15 rfl rfl rfl (OpJ.move rfl rfl) ?_
        refine AList.c 16 rfl rfl rfl (OpJ.add rfl rfl rfl (i64ok ?_)) ?_
        · omega
        refine AList.c 5 rfl rfl rfl (OpJ.assign rfl rfl) ?_
        refine AList.nil ?_
        refine ⟨i + 1, ?_, ?_, ?_⟩
        · exact ⟨hk0, same_step 0 hk0 (by omega) hI he⟩
        · omega
        exact To.done [] rfl (by repeat (first | exact Sub.nil | refine Sub.cons rfl ?_)) rfl
    · skip
      have hi2 : i = a.length := by have h := of_decide_eq_false hc1; omega
      subst hi2
      refine AWp.exit ?_
      refine AWp.seq ?_
      refine AWp.region ?_
      refine AList.c 4 rfl rfl rfl (OpJ.assign rfl rfl) ?_
      refine AList.nil ?_
      refine AWp.ret ?_
      refine Fin.oneE rfl rfl ?_
      rw [decide_eq_true (same_end hl hI)]
theorem sameC_ok (a b : List Crd) (hla : a.length ≤ bigN) (hlb : b.length ≤ bigN) : Pure Tryd.prog 12 [crdsV a, crdsV b] (.bool (decide (a = b))) := by
  have hla2 := hla
  have hlb2 := hlb
  unfold bigN at hla2 hlb2
  refine Pure.start (N := 26) Tryd.func12 rfl rfl (Nat.le_of_ble_eq_true rfl) ?_
  refine AWp.seq ?_
  refine AWp.region ?_
  refine AList.c 4 rfl rfl rfl (OpJ.assign rfl rfl) ?_
  refine AList.nil ?_
  refine AWp.seq ?_
  refine AWp.seq ?_
  refine AWp.region ?_
  refine AList.c 6 rfl rfl rfl (OpJ.move rfl rfl) ?_
  refine AList.c 7 rfl rfl rfl (OpJ.lenSlice rfl rfl sl23 rfl) ?_
  refine AList.c 8 rfl rfl rfl (OpJ.move rfl rfl) ?_
  refine AList.c 9 rfl rfl rfl (OpJ.lenSlice rfl rfl sl23 rfl) ?_
  refine AList.c 10 rfl rfl rfl (OpJ.neq rfl rfl rfl) ?_
  refine AList.nil ?_
  refine AWp.cond _ rfl (fun hc0 => ?_) (fun hc0 => ?_)
  · skip
    have hl : a.length ≠ b.length := by simp at hc0; omega
    refine AWp.seq ?_
    refine AWp.region ?_
    refine AList.c 4 rfl rfl rfl (OpJ.assign rfl rfl) ?_
    refine AList.nil ?_
    refine AWp.ret ?_
    refine Fin.oneE rfl rfl ?_
    rw [decide_eq_false (fun h => hl (by rw [h]))]
  · skip
    have hl : a.length = b.length := by simp at hc0; omega
    refine AWp.skip ?_
    refine AWp.seq ?_
    refine AWp.seq ?_
    refine AWp.region ?_
    refine AList.c 5 rfl rfl rfl (OpJ.assign rfl rfl) ?_
    refine AList.nil ?_
    refine AWp.block ?_
    refine AWp.loopHL [0, 1] (fun g => [(5, .p (.int .i64 ((g : Nat) : Int)))]) (fun g => []) (fun g => g ≤ a.length ∧ a.take g = b.take g) (fun g => a.length - g) 0 ⟨Nat.zero_le _, rfl⟩ (To.sub (Sub.chk (Sub.cons rfl (Sub.nil)))) (fun i ⟨hi, hI⟩ => ?_)
    refine AWp.seq ?_
    refine AWp.seq ?_
    refine AWp.region ?_
    refine AList.c 11 rfl rfl rfl (OpJ.move rfl rfl) ?_
    refine AList.c 12 rfl rfl rfl (OpJ.move rfl rfl) ?_
    refine AList.c 13 rfl rfl rfl (OpJ.lenSlice rfl rfl sl23 rfl) ?_
    refine AList.c 14 rfl rfl rfl (OpJ.lss rfl rfl rfl) ?_
    refine AList.nil ?_
    refine AWp.cond _ rfl (fun hc1 => ?_) (fun hc1 => ?_)
    · skip
      have hk0 : i < a.length := by have h := of_decide_eq_true hc1; omega
      refine AWp.skip ?_
      refine AWp.seq ?_
      refine AWp.block ?_
      refine AWp.seq ?_
      refine AWp.regionDraw 9 mixed (by kernel_rfl) (by decide) ?_
      refine AQuiet.cons 17 rfl rfl rfl (OpJ.move rfl rfl) ?_
      refine AQuiet.cons 18 rfl rfl rfl (OpJ.move rfl rfl) ?_
      refine AQuiet.cons 19 rfl rfl rfl (OpJ.indexG (g := gt Crd.d a) (gt_get _) rfl rfl rfl sl23 el23 rfl (fun _ => rfl) (by decide) hk0) ?_
      refine AQuiet.cons 20 rfl rfl rfl (OpJ.load (v := .p (.agg (gt Crd.d a i).cells)) rfl rfl ty76 rfl) ?_
      refine AQuiet.cons 21 rfl rfl rfl (OpJ.move rfl rfl) ?_
      refine AQuiet.cons 22 rfl rfl rfl (OpJ.move rfl rfl) ?_
      refine AQuiet.cons 23 rfl rfl rfl (OpJ.indexG (g := gt Crd.d b) (gt_get _) rfl rfl rfl sl23 el23 rfl (fun _ => rfl) (by decide) (by omega)) ?_
      refine AQuiet.cons 24 rfl rfl rfl (OpJ.load (v := .p (.agg (gt Crd.d b i).cells)) rfl rfl ty76 rfl) ?_
      refine AQuiet.cons 25 rfl rfl rfl (OpJ.eqAgg (d := 8) rfl (.inr rfl) rfl rfl (by decide) eq76 ty76 rfl eg76 rfl) ?_
      refine AQuiet.nil ?_
      refine AList.nil ?_
      refine AWp.cond _ rfl (fun hc2 => ?_) (fun hc2 => ?_)
      · skip
        have he : gt Crd.d a i ≠ gt Crd.d b i := by exact (crd_same hc2).1 rfl
        refine AWp.seq ?_
        refine AWp.region ?_
        refine AList.c 4 rfl rfl rfl (OpJ.assign rfl rfl) ?_
        refine AList.nil ?_
        refine AWp.ret ?_
        refine Fin.oneE rfl rfl ?_
        rw [decide_eq_false (same_no Crd.d he)]
      · skip
        have he : gt Crd.d a i = gt Crd.d b i := by exact Decidable.byContradiction fun e => by have := (crd_same hc2).2 e; cases this
        refine AWp.skip ?_
        refine AWp.region ?_
        refine AList.c 15 rfl rfl rfl (OpJ.move rfl rfl) ?_
        refine AList.c 16 rfl rfl rfl (OpJ.add rfl rfl rfl (i64ok ?_)) ?_
        · omega
        refine AList.c 5 rfl rfl rfl (OpJ.assign rfl rfl) ?_
        refine AList.nil ?_
        refine ⟨i + 1, ?_, ?_, ?_⟩
        · exact ⟨hk0, same_step Crd.d hk0 (by omega) hI he⟩
        · omega
        exact To.done [] rfl (by repeat (first | exact Sub.nil | refine Sub.cons rfl ?_)) rfl
    · skip
      have hi2 : i = a.length := by have h := of_decide_eq_false hc1; omega
      subst hi2
      refine AWp.exit ?_
      refine AWp.seq ?_
      refine AWp.region ?_
      refine AList.c 4 rfl rfl rfl (OpJ.assign rfl rfl) ?_
      refine AList.nil ?_
      refine AWp.ret ?_
      refine Fin.oneE rfl rfl ?_
      rw [decide_eq_true (same_end hl hI)]
theorem sameP_ok (a b : List Pck) (hla : a.length ≤ bigN) (hlb : b.length ≤ bigN) (hca : ∀ p ∈ a, p.colours.length ≤ bigN) (hcb : ∀ p ∈ b, p.colours.length ≤ bigN) : Pure Tryd.prog 13 [pcksV a, pcksV b] (.bool (decide (a = b))) := by
  have hla2 := hla
  have hlb2 := hlb
  unfold bigN at hla2 hlb2
  refine Pure.start (N := 42) Tryd.func13 rfl rfl (Nat.le_of_ble_eq_true rfl) ?_
  refine AWp.seq ?_
  refine AWp.region ?_
  refine AList.c 4 rfl rfl rfl (OpJ.assign rfl rfl) ?_
  refine AList.nil ?_
  refine AWp.seq ?_
  refine AWp.seq ?_
  refine AWp.region ?_
  refine AList.c 6 rfl rfl rfl (OpJ.move rfl rfl) ?_
  refine AList.c 7 rfl rfl rfl (OpJ.lenSlice rfl rfl sl24 rfl) ?_
  refine AList.c 8 rfl rfl rfl (OpJ.move rfl rfl) ?_
  refine AList.c 9 rfl rfl rfl (OpJ.lenSlice rfl rfl sl24 rfl) ?_
  refine AList.c 10 rfl rfl rfl (OpJ.neq rfl rfl rfl) ?_
  refine AList.nil ?_
  refine AWp.cond _ rfl (fun hc0 => ?_) (fun hc0 => ?_)
  · skip
    have hl : a.length ≠ b.length := by simp at hc0; omega
    refine AWp.seq ?_
    refine AWp.region ?_
    refine AList.c 4 rfl rfl rfl (OpJ.assign rfl rfl) ?_
    refine AList.nil ?_
    refine AWp.ret ?_
    refine Fin.oneE rfl rfl ?_
    rw [decide_eq_false (fun h => hl (by rw [h]))]
  · skip
    have hl : a.length = b.length := by simp at hc0; omega
    refine AWp.skip ?_
    refine AWp.seq ?_
    refine AWp.seq ?_
    refine AWp.region ?_
    refine AList.c 5 rfl rfl rfl (OpJ.assign rfl rfl) ?_
    refine AList.nil ?_
    refine AWp.block ?_
    refine AWp.loopHL [0, 1] (fun g => [(5, .p (.int .i64 ((g : Nat) : Int)))]) (fun g => []) (fun g => g ≤ a.length ∧ a.take g = b.take g) (fun g => a.length - g) 0 ⟨Nat.zero_le _, rfl⟩ (To.sub (Sub.chk (Sub.cons rfl (Sub.nil)))) (fun i ⟨hi, hI⟩ => ?_)
    refine AWp.seq ?_
    refine AWp.seq ?_
    refine AWp.region ?_
    refine AList.c 11 rfl rfl rfl (OpJ.move rfl rfl) ?_
    refine AList.c 12 rfl rfl rfl (OpJ.move rfl rfl) ?_
    refine AList.c 13 rfl rfl rfl (OpJ.lenSlice rfl rfl sl24 rfl) ?_
    refine AList.c 14 rfl rfl rfl (OpJ.lss rfl rfl rfl) ?_
    refine AList.nil ?_
    refine AWp.cond _ rfl (fun hc1 => ?_) (fun hc1 => ?_)
    · skip
      have hk0 : i < a.length := by have h := of_decide_eq_true hc1; omega
      refine AWp.skip ?_
      refine AWp.seq ?_
      refine AWp.block ?_
      refine AWp.seq ?_
      refine AWp.regionDraw 25 mixed (by kernel_rfl) (by decide) ?_
      refine AQuiet.cons 17 rfl rfl rfl (OpJ.move rfl rfl) ?_
      refine AQuiet.cons 18 rfl rfl rfl (OpJ.move rfl rfl) ?_
      refine AQuiet.cons 19 rfl rfl rfl (OpJ.indexG (g := gt Pck.d a) (gt_get _) rfl rfl rfl sl24 el24 rfl (fun _ => rfl) (by decide) hk0) ?_
      refine AQuiet.cons 20 rfl rfl rfl (OpJ.fieldAddr rfl rfl fd36_0 rfl) ?_
      refine AQuiet.cons 21 rfl rfl rfl (OpJ.load (v := .p (.int .i64 (gt Pck.d a i).box)) rfl rfl ty3 rfl) ?_
      refine AQuiet.cons 22 rfl rfl rfl (OpJ.move rfl rfl) ?_
      refine AQuiet.cons 23 rfl rfl rfl (OpJ.move rfl rfl) ?_
      refine AQuiet.cons 24 rfl rfl rfl (OpJ.indexG (g := gt Pck.d b) (gt_get _) rfl rfl rfl sl24 el24 rfl (fun _ => rfl) (by decide) (by omega)) ?_
      refine AQuiet.cons 25 rfl rfl rfl (OpJ.fieldAddr rfl rfl fd36_0 rfl) ?_
      refine AQuiet.cons 26 rfl rfl rfl (OpJ.load (v := .p (.int .i64 (gt Pck.d b i).box)) rfl rfl ty3 rfl) ?_
      refine AQuiet.cons 27 rfl rfl rfl (OpJ.neq rfl rfl rfl) ?_
      refine AQuiet.cons 28 rfl rfl rfl (OpJ.move rfl rfl) ?_
      refine AQuiet.guard 29 28 rfl rfl rfl rfl rfl rfl rfl [(0, _)] (fun h => And.intro (.inl rfl) (trivial)) (fun h => (OpJ.move rfl rfl)) ?_
      refine AQuiet.guard 30 28 rfl rfl rfl rfl rfl rfl rfl [(5, _)] (fun h => And.intro (.inl rfl) (trivial)) (fun h => (OpJ.move rfl rfl)) ?_
      refine AQuiet.guard 31 28 rfl rfl rfl rfl rfl rfl rfl [(29, _), (30, _)] (fun h => And.intro (.inr ⟨_, rfl, h⟩) (And.intro (.inr ⟨_, rfl, h⟩) (trivial))) (fun h => (OpJ.indexG (g := gt Pck.d a) (gt_get _) rfl rfl rfl sl24 el24 rfl (fun _ => rfl) (by decide) hk0)) ?_
      refine AQuiet.guard 32 28 rfl rfl rfl rfl rfl rfl rfl [(31, _)] (fun h => And.intro (.inr ⟨_, rfl, h⟩) (trivial)) (fun h => (OpJ.fieldAddr rfl rfl fd36_1 rfl)) ?_
      refine AQuiet.guard 33 28 rfl rfl rfl rfl rfl rfl rfl [(32, _)] (fun h => And.intro (.inr ⟨_, rfl, h⟩) (trivial)) (fun h => (OpJ.load (v := .p (intsV (gt Pck.d a i).colours)) rfl rfl ty34 rfl)) ?_
      refine AQuiet.guard 34 28 rfl rfl rfl rfl rfl rfl rfl [(1, _)] (fun h => And.intro (.inl rfl) (trivial)) (fun h => (OpJ.move rfl rfl)) ?_
      refine AQuiet.guard 35 28 rfl rfl rfl rfl rfl rfl rfl [(5, _)] (fun h => And.intro (.inl rfl) (trivial)) (fun h => (OpJ.move rfl rfl)) ?_
      refine AQuiet.guard 36 28 rfl rfl rfl rfl rfl rfl rfl [(34, _), (35, _)] (fun h => And.intro (.inr ⟨_, rfl, h⟩) (And.intro (.inr ⟨_, rfl, h⟩) (trivial))) (fun h => (OpJ.indexG (g := gt Pck.d b) (gt_get _) rfl rfl rfl sl24 el24 rfl (fun _ => rfl) (by decide) (by omega))) ?_
      refine AQuiet.guard 37 28 rfl rfl rfl rfl rfl rfl rfl [(36, _)] (fun h => And.intro (.inr ⟨_, rfl, h⟩) (trivial)) (fun h => (OpJ.fieldAddr rfl rfl fd36_1 rfl)) ?_
      refine AQuiet.guard 38 28 rfl rfl rfl rfl rfl rfl rfl [(37, _)] (fun h => And.intro (.inr ⟨_, rfl, h⟩) (trivial)) (fun h => (OpJ.load (v := .p (intsV (gt Pck.d b i).colours)) rfl rfl ty34 rfl)) ?_
      refine AQuiet.guard 39 28 rfl rfl rfl rfl rfl rfl rfl [(33, _), (38, _)] (fun h => And.intro (.inr ⟨_, rfl, h⟩) (And.intro (.inr ⟨_, rfl, h⟩) (trivial))) (fun h => (OpJ.callP (ints_ok (gt Pck.d a i).colours (gt Pck.d b i).colours (hca _ (gt_mem Pck.d hk0)) (hcb _ (gt_mem Pck.d (by omega)))) rfl rfl rfl rfl rf38)) ?_
      refine AQuiet.guard 40 28 rfl rfl rfl rfl rfl rfl rfl [(39, _)] (fun h => And.intro (.inr ⟨_, rfl, h⟩) (trivial)) (fun h => (OpJ.not_ rfl rfl)) ?_
      refine AQuiet.cons 41 rfl rfl rfl (OpJ.or_ rfl rfl rfl ?_) ?_
      · first | (intro h; rw [h]; rfl) | (intro h; simp_all)
      refine AQuiet.nil ?_
      refine AList.nil ?_
      refine AWp.cond _ rfl (fun hc2 => ?_) (fun hc2 => ?_)
      · skip
        have he : gt Pck.d a i ≠ gt Pck.d b i := by intro e; rw [e] at hc2; simp at hc2
        refine AWp.seq ?_
        refine AWp.region ?_
        refine AList.c 4 rfl rfl rfl (OpJ.assign rfl rfl) ?_
        refine AList.nil ?_
        refine AWp.ret ?_
        refine Fin.oneE rfl rfl ?_
        rw [decide_eq_false (same_no Pck.d he)]
      · skip
        have he : gt Pck.d a i = gt Pck.d b i := by simp at hc2; exact Pck.ext2 hc2.1 hc2.2
        refine AWp.skip ?_
        refine AWp.region ?_
        refine AList.c 15 rfl rfl rfl (OpJ.move rfl rfl) ?_
        refine AList.c 16 rfl rfl rfl (OpJ.add rfl rfl rfl (i64ok ?_)) ?_
        · omega
        refine AList.c 5 rfl rfl rfl (OpJ.assign rfl rfl) ?_
        refine AList.nil ?_
        refine ⟨i + 1, ?_, ?_, ?_⟩
        · exact ⟨hk0, same_step Pck.d hk0 (by omega) hI he⟩
        · omega
        exact To.done [] rfl (by repeat (first | exact Sub.nil | refine Sub.cons rfl ?_)) rfl
    · skip
      have hi2 : i = a.length := by have h := of_decide_eq_false hc1; omega
      subst hi2
      refine AWp.exit ?_
      refine AWp.seq ?_
      refine AWp.region ?_
      refine AList.c 4 rfl rfl rfl (OpJ.assign rfl rfl) ?_
      refine AList.nil ?_
      refine AWp.ret ?_
      refine Fin.oneE rfl rfl ?_
      rw [decide_eq_true (same_end hl hI)]
end Go.Proofs.YtplofbjppcbchaaDoor
end

section
set_option linter.unusedVariables false
set_option maxRecDepth 100000
set_option maxHeartbeats 4000000
set_option linter.unusedSimpArgs false
namespace Go.Proofs.YtplofbjppcbchaaDoor
open Go.AF
theorem sameR_ok (a b : List Rpt) (hla : a.length ≤ bigN) (hlb : b.length ≤ bigN) (hca : ∀ r ∈ a, r.strokes.length ≤ bigN) (hcb : ∀ r ∈ b, r.strokes.length ≤ bigN) : Pure Tryd.prog 11 [rptsV a, rptsV b] (.bool (decide (a = b))) := by
  have hla2 := hla
  have hlb2 := hlb
  unfold bigN at hla2 hlb2
  refine Pure.start (N := 97) Tryd.func11 rfl rfl (Nat.le_of_ble_eq_true rfl) ?_
  refine AWp.seq ?_
  refine AWp.region ?_
  refine AList.c 4 rfl rfl rfl (OpJ.assign rfl rfl) ?_
  refine AList.nil ?_
  refine AWp.seq ?_
  refine AWp.seq ?_
  refine AWp.region ?_
  refine AList.c 7 rfl rfl rfl (OpJ.move rfl rfl) ?_
  refine AList.c 8 rfl rfl rfl (OpJ.lenSlice rfl rfl sl22 rfl) ?_
  refine AList.c 9 rfl rfl rfl (OpJ.move rfl rfl) ?_
  refine AList.c 10 rfl rfl rfl (OpJ.lenSlice rfl rfl sl22 rfl) ?_
  refine AList.c 11 rfl rfl rfl (OpJ.neq rfl rfl rfl) ?_
  refine AList.nil ?_
  refine AWp.cond _ rfl (fun hc0 => ?_) (fun hc0 => ?_)
  · skip
    have hl : a.length ≠ b.length := by simp at hc0; omega
    refine AWp.seq ?_
    refine AWp.region ?_
    refine AList.c 4 rfl rfl rfl (OpJ.assign rfl rfl) ?_
    refine AList.nil ?_
    refine AWp.ret ?_
    refine Fin.oneE rfl rfl ?_
    rw [decide_eq_false (fun h => hl (by rw [h]))]
  · skip
    have hl : a.length = b.length := by simp at hc0; omega
    refine AWp.skip ?_
    refine AWp.seq ?_
    refine AWp.seq ?_
    refine AWp.region ?_
    refine AList.c 5 rfl rfl rfl (OpJ.assign rfl rfl) ?_
    refine AList.nil ?_
    refine AWp.block ?_
    refine AWp.loopHL [0, 1] (fun g => [(5, .p (.int .i64 ((g : Nat) : Int)))]) (fun g => []) (fun g => g ≤ a.length ∧ a.take g = b.take g) (fun g => a.length - g) 0 ⟨Nat.zero_le _, rfl⟩ (To.sub (Sub.chk (Sub.cons rfl (Sub.nil)))) (fun i ⟨hi, hI⟩ => ?_)
    refine AWp.seq ?_
    refine AWp.seq ?_
    refine AWp.region ?_
    refine AList.c 12 rfl rfl rfl (OpJ.move rfl rfl) ?_
    refine AList.c 13 rfl rfl rfl (OpJ.move rfl rfl) ?_
    refine AList.c 14 rfl rfl rfl (OpJ.lenSlice rfl rfl sl22 rfl) ?_
    refine AList.c 15 rfl rfl rfl (OpJ.lss rfl rfl rfl) ?_
    refine AList.nil ?_
    refine AWp.cond _ rfl (fun hc1 => ?_) (fun hc1 => ?_)
    · skip
      have hk0 : i < a.length := by have h := of_decide_eq_true hc1; omega
      have hkb : i < b.length := by omega
      have hsa := hca _ (gt_mem Rpt.d hk0)
      unfold bigN at hsa
      refine AWp.skip ?_
      refine AWp.seq ?_
      refine AWp.block ?_
      refine AWp.seq ?_
      refine AWp.seq ?_
      refine AWp.regionDraw 52 mixed (by kernel_rfl) (by decide) ?_
      refine AQuiet.cons 18 rfl rfl rfl (OpJ.move rfl rfl) ?_
      refine AQuiet.cons 19 rfl rfl rfl (OpJ.move rfl rfl) ?_
      refine AQuiet.cons 20 rfl rfl rfl (OpJ.indexG (g := gt Rpt.d a) (gt_get _) rfl rfl rfl sl22 el22 rfl (fun _ => rfl) (by decide) hk0) ?_
      refine AQuiet.cons 21 rfl rfl rfl (OpJ.fieldAddr rfl rfl fd33_0 rfl) ?_
      refine AQuiet.cons 22 rfl rfl rfl (OpJ.load (v := .p (.int .i64 (gt Rpt.d a i).batch)) rfl rfl ty3 rfl) ?_
      refine AQuiet.cons 23 rfl rfl rfl (OpJ.move rfl rfl) ?_
      refine AQuiet.cons 24 rfl rfl rfl (OpJ.move rfl rfl) ?_
      refine AQuiet.cons 25 rfl rfl rfl (OpJ.indexG (g := gt Rpt.d b) (gt_get _) rfl rfl rfl sl22 el22 rfl (fun _ => rfl) (by decide) hkb) ?_
      refine AQuiet.cons 26 rfl rfl rfl (OpJ.fieldAddr rfl rfl fd33_0 rfl) ?_
      refine AQuiet.cons 27 rfl rfl rfl (OpJ.load (v := .p (.int .i64 (gt Rpt.d b i).batch)) rfl rfl ty3 rfl) ?_
      refine AQuiet.cons 28 rfl rfl rfl (OpJ.neq rfl rfl rfl) ?_
      refine AQuiet.cons 29 rfl rfl rfl (OpJ.move rfl rfl) ?_
      refine AQuiet.guard 30 29 rfl rfl rfl rfl rfl rfl rfl [(0, _)] (fun h => And.intro (.inl rfl) (trivial)) (fun h => (OpJ.move rfl rfl)) ?_
      refine AQuiet.guard 31 29 rfl rfl rfl rfl rfl rfl rfl [(5, _)] (fun h => And.intro (.inl rfl) (trivial)) (fun h => (OpJ.move rfl rfl)) ?_
      refine AQuiet.guard 32 29 rfl rfl rfl rfl rfl rfl rfl [(30, _), (31, _)] (fun h => And.intro (.inr ⟨_, rfl, h⟩) (And.intro (.inr ⟨_, rfl, h⟩) (trivial))) (fun h => (OpJ.indexG (g := gt Rpt.d a) (gt_get _) rfl rfl rfl sl22 el22 rfl (fun _ => rfl) (by decide) hk0)) ?_
      refine AQuiet.guard 33 29 rfl rfl rfl rfl rfl rfl rfl [(32, _)] (fun h => And.intro (.inr ⟨_, rfl, h⟩) (trivial)) (fun h => (OpJ.fieldAddr rfl rfl fd33_2 rfl)) ?_
      refine AQuiet.guard 34 29 rfl rfl rfl rfl rfl rfl rfl [(33, _)] (fun h => And.intro (.inr ⟨_, rfl, h⟩) (trivial)) (fun h => (OpJ.load (v := .p (.agg (gt Rpt.d a i).strength.cells)) rfl rfl ty31 rfl)) ?_
      refine AQuiet.guard 35 29 rfl rfl rfl rfl rfl rfl rfl [(1, _)] (fun h => And.intro (.inl rfl) (trivial)) (fun h => (OpJ.move rfl rfl)) ?_
      refine AQuiet.guard 36 29 rfl rfl rfl rfl rfl rfl rfl [(5, _)] (fun h => And.intro (.inl rfl) (trivial)) (fun h => (OpJ.move rfl rfl)) ?_
      refine AQuiet.guard 37 29 rfl rfl rfl rfl rfl rfl rfl [(35, _), (36, _)] (fun h => And.intro (.inr ⟨_, rfl, h⟩) (And.intro (.inr ⟨_, rfl, h⟩) (trivial))) (fun h => (OpJ.indexG (g := gt Rpt.d b) (gt_get _) rfl rfl rfl sl22 el22 rfl (fun _ => rfl) (by decide) hkb)) ?_
      refine AQuiet.guard 38 29 rfl rfl rfl rfl rfl rfl rfl [(37, _)] (fun h => And.intro (.inr ⟨_, rfl, h⟩) (trivial)) (fun h => (OpJ.fieldAddr rfl rfl fd33_2 rfl)) ?_
      refine AQuiet.guard 39 29 rfl rfl rfl rfl rfl rfl rfl [(38, _)] (fun h => And.intro (.inr ⟨_, rfl, h⟩) (trivial)) (fun h => (OpJ.load (v := .p (.agg (gt Rpt.d b i).strength.cells)) rfl rfl ty31 rfl)) ?_
      refine AQuiet.guard 40 29 rfl rfl rfl rfl rfl rfl rfl [(34, _), (39, _)] (fun h => And.intro (.inr ⟨_, rfl, h⟩) (And.intro (.inr ⟨_, rfl, h⟩) (trivial))) (fun h => (OpJ.eqAgg (d := 8) rfl (.inr rfl) rfl rfl (by decide) eq31 ty31 rfl eg31 rfl)) ?_
      refine AQuiet.cons 41 rfl rfl rfl (OpJ.or_ rfl rfl rfl ?_) ?_
      · first | (intro h; rw [h]; rfl) | (intro h; simp_all)
      refine AQuiet.cons 42 rfl rfl rfl (OpJ.move rfl rfl) ?_
      refine AQuiet.guard 43 42 rfl rfl rfl rfl rfl rfl rfl [(0, _)] (fun h => And.intro (.inl rfl) (trivial)) (fun h => (OpJ.move rfl rfl)) ?_
      refine AQuiet.guard 44 42 rfl rfl rfl rfl rfl rfl rfl [(5, _)] (fun h => And.intro (.inl rfl) (trivial)) (fun h => (OpJ.move rfl rfl)) ?_
      refine AQuiet.guard 45 42 rfl rfl rfl rfl rfl rfl rfl [(43, _), (44, _)] (fun h => And.intro (.inr ⟨_, rfl, h⟩) (And.intro (.inr ⟨_, rfl, h⟩) (trivial))) (fun h => (OpJ.indexG (g := gt Rpt.d a) (gt_get _) rfl rfl rfl sl22 el22 rfl (fun _ => rfl) (by decide) hk0)) ?_
      refine AQuiet.guard 46 42 rfl rfl rfl rfl rfl rfl rfl [(45, _)] (fun h => And.intro (.inr ⟨_, rfl, h⟩) (trivial)) (fun h => (OpJ.fieldAddr rfl rfl fd33_3 rfl)) ?_
      refine AQuiet.guard 47 42 rfl rfl rfl rfl rfl rfl rfl [(46, _)] (fun h => And.intro (.inr ⟨_, rfl, h⟩) (trivial)) (fun h => (OpJ.load (v := .p (.agg (gt Rpt.d a i).wear.cells)) rfl rfl ty31 rfl)) ?_
      refine AQuiet.guard 48 42 rfl rfl rfl rfl rfl rfl rfl [(1, _)] (fun h => And.intro (.inl rfl) (trivial)) (fun h => (OpJ.move rfl rfl)) ?_
      refine AQuiet.guard 49 42 rfl rfl rfl rfl rfl rfl rfl [(5, _)] (fun h => And.intro (.inl rfl) (trivial)) (fun h => (OpJ.move rfl rfl)) ?_
      refine AQuiet.guard 50 42 rfl rfl rfl rfl rfl rfl rfl [(48, _), (49, _)] (fun h => And.intro (.inr ⟨_, rfl, h⟩) (And.intro (.inr ⟨_, rfl, h⟩) (trivial))) (fun h => (OpJ.indexG (g := gt Rpt.d b) (gt_get _) rfl rfl rfl sl22 el22 rfl (fun _ => rfl) (by decide) hkb)) ?_
      refine AQuiet.guard 51 42 rfl rfl rfl rfl rfl rfl rfl [(50, _)] (fun h => And.intro (.inr ⟨_, rfl, h⟩) (trivial)) (fun h => (OpJ.fieldAddr rfl rfl fd33_3 rfl)) ?_
      refine AQuiet.guard 52 42 rfl rfl rfl rfl rfl rfl rfl [(51, _)] (fun h => And.intro (.inr ⟨_, rfl, h⟩) (trivial)) (fun h => (OpJ.load (v := .p (.agg (gt Rpt.d b i).wear.cells)) rfl rfl ty31 rfl)) ?_
      refine AQuiet.guard 53 42 rfl rfl rfl rfl rfl rfl rfl [(47, _), (52, _)] (fun h => And.intro (.inr ⟨_, rfl, h⟩) (And.intro (.inr ⟨_, rfl, h⟩) (trivial))) (fun h => (OpJ.eqAgg (d := 8) rfl (.inr rfl) rfl rfl (by decide) eq31 ty31 rfl eg31 rfl)) ?_
      refine AQuiet.cons 54 rfl rfl rfl (OpJ.or_ rfl rfl rfl ?_) ?_
      · first | (intro h; rw [h]; rfl) | (intro h; simp_all)
      refine AQuiet.cons 55 rfl rfl rfl (OpJ.move rfl rfl) ?_
      refine AQuiet.guard 56 55 rfl rfl rfl rfl rfl rfl rfl [(0, _)] (fun h => And.intro (.inl rfl) (trivial)) (fun h => (OpJ.move rfl rfl)) ?_
      refine AQuiet.guard 57 55 rfl rfl rfl rfl rfl rfl rfl [(5, _)] (fun h => And.intro (.inl rfl) (trivial)) (fun h => (OpJ.move rfl rfl)) ?_
      refine AQuiet.guard 58 55 rfl rfl rfl rfl rfl rfl rfl [(56, _), (57, _)] (fun h => And.intro (.inr ⟨_, rfl, h⟩) (And.intro (.inr ⟨_, rfl, h⟩) (trivial))) (fun h => (OpJ.indexG (g := gt Rpt.d a) (gt_get _) rfl rfl rfl sl22 el22 rfl (fun _ => rfl) (by decide) hk0)) ?_
      refine AQuiet.guard 59 55 rfl rfl rfl rfl rfl rfl rfl [(58, _)] (fun h => And.intro (.inr ⟨_, rfl, h⟩) (trivial)) (fun h => (OpJ.fieldAddr rfl rfl fd33_1 rfl)) ?_
      refine AQuiet.guard 60 55 rfl rfl rfl rfl rfl rfl rfl [(59, _)] (fun h => And.intro (.inr ⟨_, rfl, h⟩) (trivial)) (fun h => (OpJ.load (v := .p (stksV (gt Rpt.d a i).strokes)) rfl rfl ty29 rfl)) ?_
      refine AQuiet.guard 61 55 rfl rfl rfl rfl rfl rfl rfl [(60, _)] (fun h => And.intro (.inr ⟨_, rfl, h⟩) (trivial)) (fun h => (OpJ.lenSlice rfl rfl sl29 rfl)) ?_
      refine AQuiet.guard 62 55 rfl rfl rfl rfl rfl rfl rfl [(1, _)] (fun h => And.intro (.inl rfl) (trivial)) (fun h => (OpJ.move rfl rfl)) ?_
      refine AQuiet.guard 63 55 rfl rfl rfl rfl rfl rfl rfl [(5, _)] (fun h => And.intro (.inl rfl) (trivial)) (fun h => (OpJ.move rfl rfl)) ?_
      refine AQuiet.guard 64 55 rfl rfl rfl rfl rfl rfl rfl [(62, _), (63, _)] (fun h => And.intro (.inr ⟨_, rfl, h⟩) (And.intro (.inr ⟨_, rfl, h⟩) (trivial))) (fun h => (OpJ.indexG (g := gt Rpt.d b) (gt_get _) rfl rfl rfl sl22 el22 rfl (fun _ => rfl) (by decide) hkb)) ?_
      refine AQuiet.guard 65 55 rfl rfl rfl rfl rfl rfl rfl [(64, _)] (fun h => And.intro (.inr ⟨_, rfl, h⟩) (trivial)) (fun h => (OpJ.fieldAddr rfl rfl fd33_1 rfl)) ?_
      refine AQuiet.guard 66 55 rfl rfl rfl rfl rfl rfl rfl [(65, _)] (fun h => And.intro (.inr ⟨_, rfl, h⟩) (trivial)) (fun h => (OpJ.load (v := .p (stksV (gt Rpt.d b i).strokes)) rfl rfl ty29 rfl)) ?_
      refine AQuiet.guard 67 55 rfl rfl rfl rfl rfl rfl rfl [(66, _)] (fun h => And.intro (.inr ⟨_, rfl, h⟩) (trivial)) (fun h => (OpJ.lenSlice rfl rfl sl29 rfl)) ?_
      refine AQuiet.guard 68 55 rfl rfl rfl rfl rfl rfl rfl [(61, _), (67, _)] (fun h => And.intro (.inr ⟨_, rfl, h⟩) (And.intro (.inr ⟨_, rfl, h⟩) (trivial))) (fun h => (OpJ.neq rfl rfl rfl)) ?_
      refine AQuiet.cons 69 rfl rfl rfl (OpJ.or_ rfl rfl rfl ?_) ?_
      · first | (intro h; rw [h]; rfl) | (intro h; simp_all)
      refine AQuiet.nil ?_
      refine AList.nil ?_
      refine AWp.cond _ rfl (fun hc2 => ?_) (fun hc2 => ?_)
      · skip
        have he : (gt Rpt.d a i) ≠ (gt Rpt.d b i) := rpt_ne hc2
        refine AWp.seq ?_
        refine AWp.region ?_
        refine AList.c 4 rfl rfl rfl (OpJ.assign rfl rfl) ?_
        refine AList.nil ?_
        refine AWp.ret ?_
        refine Fin.oneE rfl rfl ?_
        rw [decide_eq_false (same_no Rpt.d he)]
      · skip
        obtain ⟨e1, e2, e3, e4⟩ := rpt_eq hc2
        refine AWp.skip ?_
        refine AWp.seq ?_
        refine AWp.region ?_
        refine AList.c 6 rfl rfl rfl (OpJ.assign rfl rfl) ?_
        refine AList.nil ?_
        refine AWp.block ?_
        refine AWp.loopHL [0, 1, 5, 12, 13, 14, 15, 16, 17, 18, 19, 20, 21, 22, 23, 24, 25, 26, 27, 28, 29, 30, 31, 32, 33, 34, 35, 36, 37, 38, 39, 40, 41, 42, 43, 44, 45, 46, 47, 48, 49, 50, 51, 52, 53, 54, 55, 56, 57, 58, 59, 60, 61, 62, 63, 64, 65, 66, 67, 68, 69] (fun g => [(6, .p (.int .i64 ((g : Nat) : Int)))]) (fun g => []) (fun g => g ≤ (gt Rpt.d a i).strokes.length ∧ (gt Rpt.d a i).strokes.take g = (gt Rpt.d b i).strokes.take g) (fun g => (gt Rpt.d a i).strokes.length - g) 0 ⟨Nat.zero_le _, rfl⟩ (To.sub (Sub.chk (Sub.cons rfl (Sub.nil)))) (fun k ⟨hk, hK⟩ => ?_)
        refine AWp.seq ?_
        refine AWp.seq ?_
        refine AWp.region ?_
        refine AList.c 70 rfl rfl rfl (OpJ.move rfl rfl) ?_
        refine AList.c 71 rfl rfl rfl (OpJ.move rfl rfl) ?_
        refine AList.c 72 rfl rfl rfl (OpJ.move rfl rfl) ?_
        refine AList.c 73 rfl rfl rfl (OpJ.indexG (g := gt Rpt.d a) (gt_get _) rfl rfl rfl sl22 el22 rfl (fun _ => rfl) (by decide) hk0) ?_
        refine AList.c 74 rfl rfl rfl (OpJ.fieldAddr rfl rfl fd33_1 rfl) ?_
        refine AList.c 75 rfl rfl rfl (OpJ.load (v := .p (stksV (gt Rpt.d a i).strokes)) rfl rfl ty29 rfl) ?_
        refine AList.c 76 rfl rfl rfl (OpJ.lenSlice rfl rfl sl29 rfl) ?_
        refine AList.c 77 rfl rfl rfl (OpJ.lss rfl rfl rfl) ?_
        refine AList.nil ?_
        refine AWp.cond _ rfl (fun hc3 => ?_) (fun hc3 => ?_)
        · skip
          have hk2 : k < (gt Rpt.d a i).strokes.length := by have h := of_decide_eq_true hc3; omega
          refine AWp.skip ?_
          refine AWp.seq ?_
          refine AWp.block ?_
          refine AWp.seq ?_
          refine AWp.regionDraw 17 mixed (by kernel_rfl) (by decide) ?_
          refine AQuiet.cons 80 rfl rfl rfl (OpJ.move rfl rfl) ?_
          refine AQuiet.cons 81 rfl rfl rfl (OpJ.move rfl rfl) ?_
          refine AQuiet.cons 82 rfl rfl rfl (OpJ.indexG (g := gt Rpt.d a) (gt_get _) rfl rfl rfl sl22 el22 rfl (fun _ => rfl) (by decide) hk0) ?_
          refine AQuiet.cons 83 rfl rfl rfl (OpJ.fieldAddr rfl rfl fd33_1 rfl) ?_
          refine AQuiet.cons 84 rfl rfl rfl (OpJ.load (v := .p (stksV (gt Rpt.d a i).strokes)) rfl rfl ty29 rfl) ?_
          refine AQuiet.cons 85 rfl rfl rfl (OpJ.move rfl rfl) ?_
          refine AQuiet.cons 86 rfl rfl rfl (OpJ.indexG (g := gt Stk.d (gt Rpt.d a i).strokes) (gt_get _) rfl rfl rfl sl29 el29 rfl (fun _ => rfl) (by decide) hk2) ?_
          refine AQuiet.cons 87 rfl rfl rfl (OpJ.load (v := .p (.agg (gt Stk.d (gt Rpt.d a i).strokes k).cells)) rfl rfl ty65 rfl) ?_
          refine AQuiet.cons 88 rfl rfl rfl (OpJ.move rfl rfl) ?_
          refine AQuiet.cons 89 rfl rfl rfl (OpJ.move rfl rfl) ?_
          refine AQuiet.cons 90 rfl rfl rfl (OpJ.indexG (g := gt Rpt.d b) (gt_get _) rfl rfl rfl sl22 el22 rfl (fun _ => rfl) (by decide) hkb) ?_
          refine AQuiet.cons 91 rfl rfl rfl (OpJ.fieldAddr rfl rfl fd33_1 rfl) ?_
          refine AQuiet.cons 92 rfl rfl rfl (OpJ.load (v := .p (stksV (gt Rpt.d b i).strokes)) rfl rfl ty29 rfl) ?_
          refine AQuiet.cons 93 rfl rfl rfl (OpJ.move rfl rfl) ?_
          refine AQuiet.cons 94 rfl rfl rfl (OpJ.indexG (g := gt Stk.d (gt Rpt.d b i).strokes) (gt_get _) rfl rfl rfl sl29 el29 rfl (fun _ => rfl) (by decide) (by omega)) ?_
          refine AQuiet.cons 95 rfl rfl rfl (OpJ.load (v := .p (.agg (gt Stk.d (gt Rpt.d b i).strokes k).cells)) rfl rfl ty65 rfl) ?_
          refine AQuiet.cons 96 rfl rfl rfl (OpJ.eqAgg (d := 8) rfl (.inr rfl) rfl rfl (by decide) eq65 ty65 rfl eg65 rfl) ?_
          refine AQuiet.nil ?_
          refine AList.nil ?_
          refine AWp.cond _ rfl (fun hc4 => ?_) (fun hc4 => ?_)
          · skip
            have he2 := stk_ne hc4
            have he : (gt Rpt.d a i) ≠ (gt Rpt.d b i) := fun e => he2 (by rw [e])
            refine AWp.seq ?_
            refine AWp.region ?_
            refine AList.c 4 rfl rfl rfl (OpJ.assign rfl rfl) ?_
            refine AList.nil ?_
            refine AWp.ret ?_
            refine Fin.oneE rfl rfl ?_
            rw [decide_eq_false (same_no Rpt.d he)]
          · skip
            have he2 := stk_eq hc4
            refine AWp.skip ?_
            refine AWp.region ?_
            refine AList.c 78 rfl rfl rfl (OpJ.move rfl rfl) ?_
            refine AList.c 79 rfl rfl rfl (OpJ.add rfl rfl rfl (i64ok ?_)) ?_
            · omega
            refine AList.c 6 rfl rfl rfl (OpJ.assign rfl rfl) ?_
            refine AList.nil ?_
            refine ⟨k + 1, ?_, ?_, ?_⟩
            · exact ⟨hk2, same_step Stk.d hk2 (by omega) hK he2⟩
            · omega
            exact To.done [] rfl (by repeat (first | exact Sub.nil | refine Sub.cons rfl ?_)) rfl
        · skip
          have hk3 : k = (gt Rpt.d a i).strokes.length := by have h := of_decide_eq_false hc3; omega
          subst hk3
          have he : (gt Rpt.d a i) = (gt Rpt.d b i) := Rpt.ext4 e1 (same_end e4 hK) e2 e3
          refine AWp.exit ?_
          refine AWp.region ?_
          refine AList.c 16 rfl rfl rfl (OpJ.move rfl rfl) ?_
          refine AList.c 17 rfl rfl rfl (OpJ.add rfl rfl rfl (i64ok ?_)) ?_
          · omega
          refine AList.c 5 rfl rfl rfl (OpJ.assign rfl rfl) ?_
          refine AList.nil ?_
          refine ⟨i + 1, ?_, ?_, ?_⟩
          · exact ⟨hk0, same_step Rpt.d hk0 hkb hI he⟩
          · omega
          exact To.done [] rfl (by repeat (first | exact Sub.nil | refine Sub.cons rfl ?_)) rfl
    · skip
      have hi2 : i = a.length := by have h := of_decide_eq_false hc1; omega
      subst hi2
      refine AWp.exit ?_
      refine AWp.seq ?_
      refine AWp.region ?_
      refine AList.c 4 rfl rfl rfl (OpJ.assign rfl rfl) ?_
      refine AList.nil ?_
      refine AWp.ret ?_
      refine Fin.oneE rfl rfl ?_
      rw [decide_eq_true (same_end hl hI)]
theorem many_ok (r : List Rpt) (c : List Crd) (p : List Pck) (hr : r.length ≤ bigN) (hp : p.length ≤ bigN) : Pure Tryd.prog 4 [rptsV r, crdsV c, pcksV p] (.bool (manyB r c p)) := by
  have hr2 := hr
  have hp2 := hp
  unfold bigN at hr2 hp2
  refine Pure.start (N := 46) Tryd.func4 rfl rfl (Nat.le_of_ble_eq_true rfl) ?_
  refine AWp.seq ?_
  refine AWp.region ?_
  refine AList.c 6 rfl rfl rfl (OpJ.assign rfl rfl) ?_
  refine AList.nil ?_
  refine AWp.seq ?_
  refine AWp.seq ?_
  refine AWp.region ?_
  refine AList.c 11 rfl rfl rfl (OpJ.move rfl rfl) ?_
  refine AList.c 12 rfl rfl rfl (OpJ.lenSlice rfl rfl sl22 rfl) ?_
  refine AList.c 13 rfl rfl rfl (OpJ.move rfl rfl) ?_
  refine AList.nil ?_
  refine AWp.block ?_
  refine AWp.loopHL [0, 1, 2, 10, 11, 12, 22, 23, 24, 25, 26, 27, 28, 29, 30, 31, 32, 33, 34, 35, 36, 37, 38, 39, 40, 41, 42, 43, 44, 45] (fun g => [(13, .p (.int .i64 ((g : Nat) : Int)))]) (fun g => []) (fun g => g ≤ r.length ∧ (r.take g).any (fun x => decide ((x.strokes.length : Int) > 12)) = false) (fun g => r.length - g) 0 ⟨Nat.zero_le _, rfl⟩ (To.sub (Sub.chk (Sub.cons rfl (Sub.nil)))) (fun i ⟨hi, hI⟩ => ?_)
  refine AWp.seq ?_
  refine AWp.region ?_
  refine AList.c 14 rfl rfl rfl (OpJ.lss rfl rfl rfl) ?_
  refine AList.nil ?_
  refine AWp.seq ?_
  refine AWp.cond _ rfl (fun hc0 => ?_) (fun hc0 => ?_)
  · skip
    have hk0 : i < r.length := by have h := of_decide_eq_true hc0; omega
    refine AWp.skip ?_
    refine AWp.seq ?_
    refine AWp.block ?_
    refine AWp.seq ?_
    refine AWp.region ?_
    refine AList.c 15 rfl rfl rfl (OpJ.indexG (g := gt Rpt.d r) (gt_get _) rfl rfl rfl sl22 el22 rfl (fun _ => rfl) (by decide) hk0) ?_
    refine AList.c 16 rfl rfl rfl (OpJ.load (v := .p (.agg (gt Rpt.d r i).cells)) rfl rfl ty33 rfl) ?_
    refine AList.c 8 rfl rfl rfl (OpJ.allocOwn rfl zr33 rfl) ?_
    refine AList.c0 rfl rfl (OpJ.store rfl rfl rfl rfl rfl ty33 rfl rfl) ?_
    refine AList.nil ?_
    refine AWp.seq ?_
    refine AWp.region ?_
    refine AList.c 17 rfl rfl rfl (OpJ.fieldAddr rfl rfl fd33_1 rfl) ?_
    refine AList.c 18 rfl rfl rfl (OpJ.load (v := .p (stksV (gt Rpt.d r i).strokes)) rfl rfl ty29 rfl) ?_
    refine AList.c 19 rfl rfl rfl (OpJ.lenSlice rfl rfl sl29 rfl) ?_
    refine AList.c 20 rfl rfl rfl (OpJ.gtr rfl rfl rfl) ?_
    refine AList.nil ?_
    refine AWp.cond _ rfl (fun hc1 => ?_) (fun hc1 => ?_)
    · skip
      refine AWp.seq ?_
      refine AWp.region ?_
      refine AList.c 6 rfl rfl rfl (OpJ.assign rfl rfl) ?_
      refine AList.nil ?_
      refine AWp.ret ?_
      refine Fin.oneE rfl rfl ?_
      unfold manyB
      rw [any_gt Rpt.d (fun x : Rpt => decide ((x.strokes.length : Int) > 12)) hk0 hc1]
      rfl
    · skip
      refine AWp.skip ?_
      refine AWp.region ?_
      refine AList.c 21 rfl rfl rfl (OpJ.add rfl rfl rfl (i64ok ?_)) ?_
      · omega
      refine AList.c 13 rfl rfl rfl (OpJ.move rfl rfl) ?_
      refine AList.nil ?_
      refine ⟨i + 1, ?_, ?_, ?_⟩
      · exact ⟨hk0, any_take Rpt.d _ hk0 hI hc1⟩
      · omega
      exact To.done [] rfl (by repeat (first | exact Sub.nil | refine Sub.cons rfl ?_)) rfl
  · skip
    have hi2 : i = r.length := by have h := of_decide_eq_false hc0; omega
    subst hi2
    rw [List.take_length] at hI
    refine AWp.exit ?_
    refine AWp.seq ?_
    refine AWp.seq ?_
    refine AWp.region ?_
    refine AList.c 22 rfl rfl rfl (OpJ.move rfl rfl) ?_
    refine AList.c 23 rfl rfl rfl (OpJ.lenSlice rfl rfl sl24 rfl) ?_
    refine AList.c 24 rfl rfl rfl (OpJ.move rfl rfl) ?_
    refine AList.nil ?_
    refine AWp.block ?_
    refine AWp.loopHL [0, 1, 2, 22, 23, 33, 34, 35, 36, 37, 38, 39, 40, 41, 42, 43, 44, 45] (fun g => [(24, .p (.int .i64 ((g : Nat) : Int)))]) (fun g => []) (fun g => g ≤ p.length ∧ (p.take g).any (fun x => decide ((x.colours.length : Int) > 60)) = false) (fun g => p.length - g) 0 ⟨Nat.zero_le _, rfl⟩ (To.sub (Sub.chk (Sub.cons rfl (Sub.nil)))) (fun k ⟨hk, hK⟩ => ?_)
    refine AWp.seq ?_
    refine AWp.region ?_
    refine AList.c 25 rfl rfl rfl (OpJ.lss rfl rfl rfl) ?_
    refine AList.nil ?_
    refine AWp.seq ?_
    refine AWp.cond _ rfl (fun hc2 => ?_) (fun hc2 => ?_)
    · skip
      have hk1 : k < p.length := by have h := of_decide_eq_true hc2; omega
      refine AWp.skip ?_
      refine AWp.seq ?_
      refine AWp.block ?_
      refine AWp.seq ?_
      refine AWp.region ?_
      refine AList.c 26 rfl rfl rfl (OpJ.indexG (g := gt Pck.d p) (gt_get _) rfl rfl rfl sl24 el24 rfl (fun _ => rfl) (by decide) hk1) ?_
      refine AList.c 27 rfl rfl rfl (OpJ.load (v := .p (.agg (gt Pck.d p k).cells)) rfl rfl ty36 rfl) ?_
      refine AList.c 10 rfl rfl rfl (OpJ.allocOwn rfl zr36 rfl) ?_
      refine AList.c0 rfl rfl (OpJ.store rfl rfl rfl rfl rfl ty36 rfl rfl) ?_
      refine AList.nil ?_
      refine AWp.seq ?_
      refine AWp.region ?_
      refine AList.c 28 rfl rfl rfl (OpJ.fieldAddr rfl rfl fd36_1 rfl) ?_
      refine AList.c 29 rfl rfl rfl (OpJ.load (v := .p (intsV (gt Pck.d p k).colours)) rfl rfl ty34 rfl) ?_
      refine AList.c 30 rfl rfl rfl (OpJ.lenSlice rfl rfl sl34 rfl) ?_
      refine AList.c 31 rfl rfl rfl (OpJ.gtr rfl rfl rfl) ?_
      refine AList.nil ?_
      refine AWp.cond _ rfl (fun hc3 => ?_) (fun hc3 => ?_)
      · skip
        refine AWp.seq ?_
        refine AWp.region ?_
        refine AList.c 6 rfl rfl rfl (OpJ.assign rfl rfl) ?_
        refine AList.nil ?_
        refine AWp.ret ?_
        refine Fin.oneE rfl rfl ?_
        unfold manyB
        rw [any_gt Pck.d (fun x : Pck => decide ((x.colours.length : Int) > 60)) hk1 hc3, hI]
        rfl
      · skip
        refine AWp.skip ?_
        refine AWp.region ?_
        refine AList.c 32 rfl rfl rfl (OpJ.add rfl rfl rfl (i64ok ?_)) ?_
        · omega
        refine AList.c 24 rfl rfl rfl (OpJ.move rfl rfl) ?_
        refine AList.nil ?_
        refine ⟨k + 1, ?_, ?_, ?_⟩
        · exact ⟨hk1, any_take Pck.d _ hk1 hK hc3⟩
        · omega
        exact To.done [] rfl (by repeat (first | exact Sub.nil | refine Sub.cons rfl ?_)) rfl
    · skip
      have hi2 : k = p.length := by have h := of_decide_eq_false hc2; omega
      subst hi2
      rw [List.take_length] at hK
      refine AWp.exit ?_
      refine AWp.seq ?_
      refine AWp.region ?_
      refine AList.c 33 rfl rfl rfl (OpJ.move rfl rfl) ?_
      refine AList.c 34 rfl rfl rfl (OpJ.lenSlice rfl rfl sl22 rfl) ?_
      refine AList.c 35 rfl rfl rfl (OpJ.gtr rfl rfl rfl) ?_
      refine AList.c 36 rfl rfl rfl (OpJ.move rfl rfl) ?_
      refine AList.g 37 36 rfl rfl rfl rfl rfl rfl rfl [(1, _)] (fun h => And.intro (.inl rfl) (trivial)) (fun h => (OpJ.move rfl rfl)) ?_
      refine AList.g 38 36 rfl rfl rfl rfl rfl rfl rfl [(37, _)] (fun h => And.intro (.inr ⟨_, rfl, h⟩) (trivial)) (fun h => (OpJ.lenSlice rfl rfl sl23 rfl)) ?_
      refine AList.g 39 36 rfl rfl rfl rfl rfl rfl rfl [(38, _)] (fun h => And.intro (.inr ⟨_, rfl, h⟩) (trivial)) (fun h => (OpJ.gtr rfl rfl rfl)) ?_
      refine AList.c 40 rfl rfl rfl (OpJ.or_ rfl rfl rfl ?_) ?_
      · first | (intro h; rw [h]; rfl) | (intro h; simp_all)
      refine AList.c 41 rfl rfl rfl (OpJ.move rfl rfl) ?_
      refine AList.g 42 41 rfl rfl rfl rfl rfl rfl rfl [(2, _)] (fun h => And.intro (.inl rfl) (trivial)) (fun h => (OpJ.move rfl rfl)) ?_
      refine AList.g 43 41 rfl rfl rfl rfl rfl rfl rfl [(42, _)] (fun h => And.intro (.inr ⟨_, rfl, h⟩) (trivial)) (fun h => (OpJ.lenSlice rfl rfl sl24 rfl)) ?_
      refine AList.g 44 41 rfl rfl rfl rfl rfl rfl rfl [(43, _)] (fun h => And.intro (.inr ⟨_, rfl, h⟩) (trivial)) (fun h => (OpJ.gtr rfl rfl rfl)) ?_
      refine AList.c 45 rfl rfl rfl (OpJ.or_ rfl rfl rfl ?_) ?_
      · first | (intro h; rw [h]; rfl) | (intro h; simp_all)
      refine AList.c 6 rfl rfl rfl (OpJ.assign rfl rfl) ?_
      refine AList.nil ?_
      refine AWp.ret ?_
      refine Fin.oneE rfl rfl ?_
      unfold manyB
      rw [hK, hI]
      simp only [Bool.false_or, Bool.or_assoc]
theorem wRx : Pure Tryd.prog 6 [rptsV exR] (.tuple [.str (sB exRT), .int .i64 0]) := by
  have h := writeReports_ok exR (by decide) (by decide)
  rwa [ex_wR] at h
theorem wCx : Pure Tryd.prog 7 [crdsV exC] (.tuple [.str (sB exCT), .int .i64 0]) := by
  have h := writeCards_ok exC (by decide)
  rwa [ex_wC] at h
theorem wPx : Pure Tryd.prog 8 [pcksV exP] (.tuple [.str (sB exPT), .int .i64 0]) := by
  have h := writePacks_ok exP (by decide) (by decide)
  rwa [ex_wP] at h
theorem rRx : Pure Tryd.prog 17 [.str (sB exRT)] (.tuple [rptsV exR, .int .i64 0]) := by
  have h := readReports_ok exRT
  rwa [ex_rR] at h
theorem rCx : Pure Tryd.prog 18 [.str (sB exCT)] (.tuple [crdsV exC, .int .i64 0]) := by
  have h := readCards_ok exCT
  rwa [ex_rC] at h
theorem rPx : Pure Tryd.prog 9 [.str (sB exPT)] (.tuple [pcksV exP, .int .i64 0]) := by
  have h := readPacks_ok exPT
  rwa [ex_rP] at h
theorem alive_ok  : Pure Tryd.prog 5 [] (.bool true) := by
  refine Pure.start (N := 89) Tryd.func5 rfl rfl (Nat.le_of_ble_eq_true rfl) ?_
  refine AWp.seq ?_
  refine AWp.region ?_
  refine AList.c 0 rfl rfl rfl (OpJ.assign rfl rfl) ?_
  refine AList.nil ?_
  refine AWp.seq ?_
  refine AWp.region ?_
  refine AList.c 14 rfl rfl rfl (OpJ.callP (lreports_ok) rfl rfl rfl rfl rf14) ?_
  refine AList.c 15 rfl rfl rfl (OpJ.callP (wRx) rfl rfl rfl rfl rf6) ?_
  refine AList.c 13 rfl rfl rfl (OpJ.move rfl rfl) ?_
  refine AList.c 16 rfl rfl rfl (OpJ.extract rfl rfl rfl) ?_
  refine AList.c 17 rfl rfl rfl (OpJ.extract rfl rfl rfl) ?_
  refine AList.c 1 rfl rfl rfl (OpJ.assign rfl rfl) ?_
  refine AList.c 2 rfl rfl rfl (OpJ.assign rfl rfl) ?_
  refine AList.nil ?_
  refine AWp.seq ?_
  refine AWp.region ?_
  refine AList.c 19 rfl rfl rfl (OpJ.callP (lcards_ok) rfl rfl rfl rfl rf15) ?_
  refine AList.c 20 rfl rfl rfl (OpJ.callP (wCx) rfl rfl rfl rfl rf7) ?_
  refine AList.c 18 rfl rfl rfl (OpJ.move rfl rfl) ?_
  refine AList.c 21 rfl rfl rfl (OpJ.extract rfl rfl rfl) ?_
  refine AList.c 22 rfl rfl rfl (OpJ.extract rfl rfl rfl) ?_
  refine AList.c 3 rfl rfl rfl (OpJ.assign rfl rfl) ?_
  refine AList.c 4 rfl rfl rfl (OpJ.assign rfl rfl) ?_
  refine AList.nil ?_
  refine AWp.seq ?_
  refine AWp.region ?_
  refine AList.c 24 rfl rfl rfl (OpJ.callP (lpacks_ok) rfl rfl rfl rfl rf16) ?_
  refine AList.c 25 rfl rfl rfl (OpJ.callP (wPx) rfl rfl rfl rfl rf8) ?_
  refine AList.c 23 rfl rfl rfl (OpJ.move rfl rfl) ?_
  refine AList.c 26 rfl rfl rfl (OpJ.extract rfl rfl rfl) ?_
  refine AList.c 27 rfl rfl rfl (OpJ.extract rfl rfl rfl) ?_
  refine AList.c 5 rfl rfl rfl (OpJ.assign rfl rfl) ?_
  refine AList.c 6 rfl rfl rfl (OpJ.assign rfl rfl) ?_
  refine AList.nil ?_
  refine AWp.seq ?_
  refine AWp.region ?_
  refine AList.c 29 rfl rfl rfl (OpJ.callP (rRx) rfl rfl rfl rfl rf17) ?_
  refine AList.c 28 rfl rfl rfl (OpJ.move rfl rfl) ?_
  refine AList.c 30 rfl rfl rfl (OpJ.extract rfl rfl rfl) ?_
  refine AList.c 31 rfl rfl rfl (OpJ.extract rfl rfl rfl) ?_
  refine AList.c 7 rfl rfl rfl (OpJ.assign rfl rfl) ?_
  refine AList.c 8 rfl rfl rfl (OpJ.assign rfl rfl) ?_
  refine AList.nil ?_
  refine AWp.seq ?_
  refine AWp.region ?_
  refine AList.c 33 rfl rfl rfl (OpJ.callP (rCx) rfl rfl rfl rfl rf18) ?_
  refine AList.c 32 rfl rfl rfl (OpJ.move rfl rfl) ?_
  refine AList.c 34 rfl rfl rfl (OpJ.extract rfl rfl rfl) ?_
  refine AList.c 35 rfl rfl rfl (OpJ.extract rfl rfl rfl) ?_
  refine AList.c 9 rfl rfl rfl (OpJ.assign rfl rfl) ?_
  refine AList.c 10 rfl rfl rfl (OpJ.assign rfl rfl) ?_
  refine AList.nil ?_
  refine AWp.seq ?_
  refine AWp.region ?_
  refine AList.c 37 rfl rfl rfl (OpJ.callP (rPx) rfl rfl rfl rfl rf9) ?_
  refine AList.c 36 rfl rfl rfl (OpJ.move rfl rfl) ?_
  refine AList.c 38 rfl rfl rfl (OpJ.extract rfl rfl rfl) ?_
  refine AList.c 39 rfl rfl rfl (OpJ.extract rfl rfl rfl) ?_
  refine AList.c 11 rfl rfl rfl (OpJ.assign rfl rfl) ?_
  refine AList.c 12 rfl rfl rfl (OpJ.assign rfl rfl) ?_
  refine AList.nil ?_
  refine AWp.seq ?_
  refine AWp.region ?_
  refine AList.c 40 rfl rfl rfl (OpJ.move rfl rfl) ?_
  refine AList.c 41 rfl rfl rfl (OpJ.strEq exRT exRT rfl rfl rfl) ?_
  refine AList.c 42 rfl rfl rfl (OpJ.move rfl rfl) ?_
  refine AList.g 43 42 rfl rfl rfl rfl rfl rfl rfl [(2, _)] (fun h => And.intro (.inl rfl) (trivial)) (fun h => (OpJ.move rfl rfl)) ?_
  refine AList.g 44 42 rfl rfl rfl rfl rfl rfl rfl [(43, _)] (fun h => And.intro (.inr ⟨_, rfl, h⟩) (trivial)) (fun h => (OpJ.eql rfl rfl rfl)) ?_
  refine AList.c 45 rfl rfl rfl (OpJ.and_ rfl rfl rfl ?_) ?_
  · first | (intro h; rw [h]; rfl) | (intro h; simp_all)
  refine AList.c 46 rfl rfl rfl (OpJ.move rfl rfl) ?_
  refine AList.g 47 46 rfl rfl rfl rfl rfl rfl rfl [(3, _)] (fun h => And.intro (.inl rfl) (trivial)) (fun h => (OpJ.move rfl rfl)) ?_
  refine AList.g 48 46 rfl rfl rfl rfl rfl rfl rfl [(47, _)] (fun h => And.intro (.inr ⟨_, rfl, h⟩) (trivial)) (fun h => (OpJ.strEq exCT exCT rfl rfl rfl)) ?_
  refine AList.c 49 rfl rfl rfl (OpJ.and_ rfl rfl rfl ?_) ?_
  · first | (intro h; rw [h]; rfl) | (intro h; simp_all)
  refine AList.c 50 rfl rfl rfl (OpJ.move rfl rfl) ?_
  refine AList.g 51 50 rfl rfl rfl rfl rfl rfl rfl [(4, _)] (fun h => And.intro (.inl rfl) (trivial)) (fun h => (OpJ.move rfl rfl)) ?_
  refine AList.g 52 50 rfl rfl rfl rfl rfl rfl rfl [(51, _)] (fun h => And.intro (.inr ⟨_, rfl, h⟩) (trivial)) (fun h => (OpJ.eql rfl rfl rfl)) ?_
  refine AList.c 53 rfl rfl rfl (OpJ.and_ rfl rfl rfl ?_) ?_
  · first | (intro h; rw [h]; rfl) | (intro h; simp_all)
  refine AList.c 54 rfl rfl rfl (OpJ.move rfl rfl) ?_
  refine AList.g 55 54 rfl rfl rfl rfl rfl rfl rfl [(5, _)] (fun h => And.intro (.inl rfl) (trivial)) (fun h => (OpJ.move rfl rfl)) ?_
  refine AList.g 56 54 rfl rfl rfl rfl rfl rfl rfl [(55, _)] (fun h => And.intro (.inr ⟨_, rfl, h⟩) (trivial)) (fun h => (OpJ.strEq exPT exPT rfl rfl rfl)) ?_
  refine AList.c 57 rfl rfl rfl (OpJ.and_ rfl rfl rfl ?_) ?_
  · first | (intro h; rw [h]; rfl) | (intro h; simp_all)
  refine AList.c 58 rfl rfl rfl (OpJ.move rfl rfl) ?_
  refine AList.g 59 58 rfl rfl rfl rfl rfl rfl rfl [(6, _)] (fun h => And.intro (.inl rfl) (trivial)) (fun h => (OpJ.move rfl rfl)) ?_
  refine AList.g 60 58 rfl rfl rfl rfl rfl rfl rfl [(59, _)] (fun h => And.intro (.inr ⟨_, rfl, h⟩) (trivial)) (fun h => (OpJ.eql rfl rfl rfl)) ?_
  refine AList.c 61 rfl rfl rfl (OpJ.and_ rfl rfl rfl ?_) ?_
  · first | (intro h; rw [h]; rfl) | (intro h; simp_all)
  refine AList.c 62 rfl rfl rfl (OpJ.move rfl rfl) ?_
  refine AList.g 63 62 rfl rfl rfl rfl rfl rfl rfl [(7, _)] (fun h => And.intro (.inl rfl) (trivial)) (fun h => (OpJ.move rfl rfl)) ?_
  refine AList.g 64 62 rfl rfl rfl rfl rfl rfl rfl [] (fun h => trivial) (fun h => (OpJ.callP (lreports_ok) rfl rfl rfl rfl rf14)) ?_
  refine AList.g 65 62 rfl rfl rfl rfl rfl rfl rfl [(63, _), (64, _)] (fun h => And.intro (.inr ⟨_, rfl, h⟩) (And.intro (.inr ⟨_, rfl, h⟩) (trivial))) (fun h => (OpJ.callP (sameR_ok exR exR (by decide) (by decide) (by decide) (by decide)) rfl rfl rfl rfl rf11)) ?_
  refine AList.c 66 rfl rfl rfl (OpJ.and_ rfl rfl rfl ?_) ?_
  · first | (intro h; rw [h]; rfl) | (intro h; simp_all)
  refine AList.c 67 rfl rfl rfl (OpJ.move rfl rfl) ?_
  refine AList.g 68 67 rfl rfl rfl rfl rfl rfl rfl [(8, _)] (fun h => And.intro (.inl rfl) (trivial)) (fun h => (OpJ.move rfl rfl)) ?_
  refine AList.g 69 67 rfl rfl rfl rfl rfl rfl rfl [(68, _)] (fun h => And.intro (.inr ⟨_, rfl, h⟩) (trivial)) (fun h => (OpJ.eql rfl rfl rfl)) ?_
  refine AList.c 70 rfl rfl rfl (OpJ.and_ rfl rfl rfl ?_) ?_
  · first | (intro h; rw [h]; rfl) | (intro h; simp_all)
  refine AList.c 71 rfl rfl rfl (OpJ.move rfl rfl) ?_
  refine AList.g 72 71 rfl rfl rfl rfl rfl rfl rfl [(9, _)] (fun h => And.intro (.inl rfl) (trivial)) (fun h => (OpJ.move rfl rfl)) ?_
  refine AList.g 73 71 rfl rfl rfl rfl rfl rfl rfl [] (fun h => trivial) (fun h => (OpJ.callP (lcards_ok) rfl rfl rfl rfl rf15)) ?_
  refine AList.g 74 71 rfl rfl rfl rfl rfl rfl rfl [(72, _), (73, _)] (fun h => And.intro (.inr ⟨_, rfl, h⟩) (And.intro (.inr ⟨_, rfl, h⟩) (trivial))) (fun h => (OpJ.callP (sameC_ok exC exC (by decide) (by decide)) rfl rfl rfl rfl rf12)) ?_
  refine AList.c 75 rfl rfl rfl (OpJ.and_ rfl rfl rfl ?_) ?_
  · first | (intro h; rw [h]; rfl) | (intro h; simp_all)
  refine AList.c 76 rfl rfl rfl (OpJ.move rfl rfl) ?_
  refine AList.g 77 76 rfl rfl rfl rfl rfl rfl rfl [(10, _)] (fun h => And.intro (.inl rfl) (trivial)) (fun h => (OpJ.move rfl rfl)) ?_
  refine AList.g 78 76 rfl rfl rfl rfl rfl rfl rfl [(77, _)] (fun h => And.intro (.inr ⟨_, rfl, h⟩) (trivial)) (fun h => (OpJ.eql rfl rfl rfl)) ?_
  refine AList.c 79 rfl rfl rfl (OpJ.and_ rfl rfl rfl ?_) ?_
  · first | (intro h; rw [h]; rfl) | (intro h; simp_all)
  refine AList.c 80 rfl rfl rfl (OpJ.move rfl rfl) ?_
  refine AList.g 81 80 rfl rfl rfl rfl rfl rfl rfl [(11, _)] (fun h => And.intro (.inl rfl) (trivial)) (fun h => (OpJ.move rfl rfl)) ?_
  refine AList.g 82 80 rfl rfl rfl rfl rfl rfl rfl [] (fun h => trivial) (fun h => (OpJ.callP (lpacks_ok) rfl rfl rfl rfl rf16)) ?_
  refine AList.g 83 80 rfl rfl rfl rfl rfl rfl rfl [(81, _), (82, _)] (fun h => And.intro (.inr ⟨_, rfl, h⟩) (And.intro (.inr ⟨_, rfl, h⟩) (trivial))) (fun h => (OpJ.callP (sameP_ok exP exP (by decide) (by decide) (by decide) (by decide)) rfl rfl rfl rfl rf13)) ?_
  refine AList.c 84 rfl rfl rfl (OpJ.and_ rfl rfl rfl ?_) ?_
  · first | (intro h; rw [h]; rfl) | (intro h; simp_all)
  refine AList.c 85 rfl rfl rfl (OpJ.move rfl rfl) ?_
  refine AList.g 86 85 rfl rfl rfl rfl rfl rfl rfl [(12, _)] (fun h => And.intro (.inl rfl) (trivial)) (fun h => (OpJ.move rfl rfl)) ?_
  refine AList.g 87 85 rfl rfl rfl rfl rfl rfl rfl [(86, _)] (fun h => And.intro (.inr ⟨_, rfl, h⟩) (trivial)) (fun h => (OpJ.eql rfl rfl rfl)) ?_
  refine AList.c 88 rfl rfl rfl (OpJ.and_ rfl rfl rfl ?_) ?_
  · first | (intro h; rw [h]; rfl) | (intro h; simp_all)
  refine AList.c 0 rfl rfl rfl (OpJ.assign rfl rfl) ?_
  refine AList.nil ?_
  refine AWp.ret ?_
  refine Fin.oneE rfl rfl ?_
  simp
end Go.Proofs.YtplofbjppcbchaaDoor
end

section
set_option linter.unusedVariables false
set_option maxRecDepth 100000
set_option maxHeartbeats 4000000
set_option linter.unusedSimpArgs false
namespace Go.Proofs.YtplofbjppcbchaaDoor
open Go.AF
theorem after_ok (s w : Bs) : Pure Tryd.prog 70 [.str (sB s), .str (sB w)] (.tuple [.str (sB (if preB w s then s.drop w.length else [])), .bool (preB w s)]) := by
  refine Pure.start (N := 23) Tryd.func70 rfl rfl (Nat.le_of_ble_eq_true rfl) ?_
  refine AWp.seq ?_
  refine AWp.region ?_
  refine AList.c 4 rfl rfl rfl (OpJ.assign rfl rfl) ?_
  refine AList.c 5 rfl rfl rfl (OpJ.assign rfl rfl) ?_
  refine AList.nil ?_
  refine AWp.seq ?_
  refine AWp.seq ?_
  refine AWp.region ?_
  refine AList.c 6 rfl rfl rfl (OpJ.move rfl rfl) ?_
  refine AList.c 7 rfl rfl rfl (OpJ.lenStr rfl rfl un9) ?_
  refine AList.c 8 rfl rfl rfl (OpJ.move rfl rfl) ?_
  refine AList.c 9 rfl rfl rfl (OpJ.lenStr rfl rfl un9) ?_
  refine AList.c 10 rfl rfl rfl (OpJ.lss rfl rfl rfl) ?_
  refine AList.c 11 rfl rfl rfl (OpJ.move rfl rfl) ?_
  refine AList.g 12 11 rfl rfl rfl rfl rfl rfl rfl [(0, _)] (fun h => And.intro (.inl rfl) (trivial)) (fun h => (OpJ.move rfl rfl)) ?_
  refine AList.g 13 11 rfl rfl rfl rfl rfl rfl rfl [(1, _)] (fun h => And.intro (.inl rfl) (trivial)) (fun h => (OpJ.move rfl rfl)) ?_
  refine AList.g 14 11 rfl rfl rfl rfl rfl rfl rfl [(13, _)] (fun h => And.intro (.inr ⟨_, rfl, h⟩) (trivial)) (fun h => (OpJ.lenStr rfl rfl un9)) ?_
  refine AList.g 15 11 rfl rfl rfl rfl rfl rfl rfl [(12, _), (14, _)] (fun h => And.intro (.inr ⟨_, rfl, h⟩) (And.intro (.inr ⟨_, rfl, h⟩) (trivial))) (fun h => (OpJ.strCut s 0 w.length rfl rfl st9 rfl ⟨_, rfl⟩ (Nat.zero_le _) (by have h2 : ¬ ((s.length : Int) < (w.length : Int)) := of_decide_eq_false (eq_of_beq h); omega))) ?_
  refine AList.g 16 11 rfl rfl rfl rfl rfl rfl rfl [(1, _)] (fun h => And.intro (.inl rfl) (trivial)) (fun h => (OpJ.move rfl rfl)) ?_
  refine AList.g 17 11 rfl rfl rfl rfl rfl rfl rfl [(15, _), (16, _)] (fun h => And.intro (.inr ⟨_, rfl, h⟩) (And.intro (.inr ⟨_, rfl, h⟩) (trivial))) (fun h => (OpJ.strNe _ _ rfl rfl rfl)) ?_
  refine AList.c 18 rfl rfl rfl (OpJ.or_ rfl rfl rfl ?_) ?_
  · first | (intro h; rw [h]; rfl) | (intro h; simp_all)
  refine AList.nil ?_
  refine AWp.cond _ rfl (fun hc0 => ?_) (fun hc0 => ?_)
  · skip
    have hp : preB w s = false := after_c hc0
    refine AWp.seq ?_
    refine AWp.region ?_
    refine AList.c 4 rfl rfl rfl (OpJ.assign rfl rfl) ?_
    refine AList.c 5 rfl rfl rfl (OpJ.assign rfl rfl) ?_
    refine AList.nil ?_
    refine AWp.ret ?_
    refine Fin.manyE (xs := [.str (sB []), .bool false]) rfl ⟨_, _, rfl, rfl, ⟨_, _, rfl, rfl, rfl⟩⟩ rfl ?_
    rw [hp]
    rfl
  · skip
    have hp : preB w s = true := after_c hc0
    refine AWp.skip ?_
    refine AWp.seq ?_
    refine AWp.region ?_
    refine AList.c 19 rfl rfl rfl (OpJ.move rfl rfl) ?_
    refine AList.c 20 rfl rfl rfl (OpJ.move rfl rfl) ?_
    refine AList.c 21 rfl rfl rfl (OpJ.lenStr rfl rfl un9) ?_
    refine AList.c 22 rfl rfl rfl (OpJ.strCut s w.length s.length rfl rfl st9 ⟨_, rfl⟩ rfl (preB_iff.1 hp).2 (Nat.le_refl _)) ?_
    refine AList.c 4 rfl rfl rfl (OpJ.assign rfl rfl) ?_
    refine AList.c 5 rfl rfl rfl (OpJ.assign rfl rfl) ?_
    refine AList.nil ?_
    refine AWp.ret ?_
    refine Fin.manyE (xs := [.str (sB ((s.drop w.length).take (s.length - w.length))), .bool true]) rfl ⟨_, _, rfl, rfl, ⟨_, _, rfl, rfl, rfl⟩⟩ rfl ?_
    rw [hp, List.take_of_length_le (by rw [List.length_drop]; omega)]
    rfl
end Go.Proofs.YtplofbjppcbchaaDoor
end
