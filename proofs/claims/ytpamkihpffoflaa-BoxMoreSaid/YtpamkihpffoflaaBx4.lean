/-
  What is valid, in the other text.
-/
import Derived.Test.YtpamkihpffoflaaBx3
set_option linter.unusedVariables false
set_option maxRecDepth 100000
set_option maxHeartbeats 4000000
set_option linter.unusedSimpArgs false
namespace Go.Proofs.Ytpamkihpffoflaa
open Go.AF
theorem rvalid_ok (need : List Int) (l : List Pr) (hnl : need.length ≤ bigN) (hll : l.length ≤ bigN) : Pure Try.prog 21 [intsV need, rawV l] (.bool (decide (Vld need l))) := by
  unfold bigN at hnl hll
  refine Pure.start (N := 63) Try.func21 rfl rfl (Nat.le_of_ble_eq_true rfl) ?_
  refine AWp.seq ?_
  refine AWp.region ?_
  refine AList.c 4 rfl rfl rfl (OpJ.assign rfl rfl) ?_
  refine AList.nil ?_
  refine AWp.seq ?_
  refine AWp.seq ?_
  refine AWp.region ?_
  refine AList.c 8 rfl rfl rfl (OpJ.move rfl rfl) ?_
  refine AList.c 9 rfl rfl rfl (OpJ.lenSlice rfl rfl sl22 rfl) ?_
  refine AList.c 10 rfl rfl rfl (OpJ.callP (in_ok _ _ _) rfl rfl rfl rfl rf51) ?_
  refine AList.c 11 rfl rfl rfl (OpJ.not_ rfl rfl) ?_
  refine AList.c 12 rfl rfl rfl (OpJ.move rfl rfl) ?_
  refine AList.g 13 12 rfl rfl rfl rfl rfl rfl rfl [(1, _)] (fun h => And.intro (.inl rfl) (trivial)) (fun h => (OpJ.move rfl rfl)) ?_
  refine AList.g 14 12 rfl rfl rfl rfl rfl rfl rfl [(13, _)] (fun h => And.intro (.inr ⟨_, rfl, h⟩) (trivial)) (fun h => (OpJ.lenSlice rfl rfl sl23 rfl)) ?_
  refine AList.g 15 12 rfl rfl rfl rfl rfl rfl rfl [(14, _)] (fun h => And.intro (.inr ⟨_, rfl, h⟩) (trivial)) (fun h => (OpJ.gtr rfl rfl rfl)) ?_
  refine AList.c 16 rfl rfl rfl (OpJ.or_ rfl rfl rfl ?_) ?_
  · first | (intro h; rw [h]; rfl) | (intro h; simp_all)
  refine AList.nil ?_
  refine AWp.cond _ rfl (fun hc0 => ?_) (fun hc0 => ?_)
  · skip
    refine AWp.seq ?_
    refine AWp.region ?_
    refine AList.c 4 rfl rfl rfl (OpJ.assign rfl rfl) ?_
    refine AList.nil ?_
    refine AWp.ret ?_
    refine Fin.oneE rfl rfl ?_
    rw [decide_eq_false (p := Vld need l) (fun h => by have h1 := h.1; have h2 := h.2.1; simp at hc0; omega)]
  · skip
    have hn8 : (1 ≤ need.length ∧ need.length ≤ 8) ∧ l.length ≤ 8 := by simp at hc0; omega
    have hp8 := pow8 hn8.1.2
    have hp1 := pow_pos' need.length
    refine AWp.skip ?_
    refine AWp.seq ?_
    refine AWp.region ?_
    refine AList.c 5 rfl rfl rfl (OpJ.assign rfl rfl) ?_
    refine AList.nil ?_
    refine AWp.seq ?_
    refine AWp.seq ?_
    refine AWp.region ?_
    refine AList.c 6 rfl rfl rfl (OpJ.assign rfl rfl) ?_
    refine AList.nil ?_
    refine AWp.block ?_
    refine AWp.loopK [4, 5, 6, 17, 18, 19, 20, 21, 22, 23, 24, 25, 26, 27, 28, 29, 30, 31, 32, 33, 34] (fun g => [(6, .p (.int .i64 ((g : Nat) : Int))), (5, .p (.int .i64 (need.take g).sum))]) (fun g => g ≤ need.length ∧ (∀ x ∈ need.take g, 0 ≤ x ∧ x ≤ 48) ∧ 0 ≤ (need.take g).sum ∧ (need.take g).sum ≤ 48 * (g : Int)) (fun g => need.length - g) 0 ⟨Nat.zero_le _, (fun x hx => by simp at hx), by simp, by simp⟩ (Sub.cons rfl (Sub.cons rfl (Sub.nil))) (fun i hg => ?_)
    obtain ⟨hg1, hg2, hg3, hg4⟩ := hg
    refine AWp.seq ?_
    refine AWp.seq ?_
    refine AWp.region ?_
    refine AList.c 17 rfl rfl rfl (OpJ.move rfl rfl) ?_
    refine AList.c 18 rfl rfl rfl (OpJ.move rfl rfl) ?_
    refine AList.c 19 rfl rfl rfl (OpJ.lenSlice rfl rfl sl22 rfl) ?_
    refine AList.c 20 rfl rfl rfl (OpJ.lss rfl rfl rfl) ?_
    refine AList.nil ?_
    refine AWp.cond _ rfl (fun hc1 => ?_) (fun hc1 => ?_)
    · skip
      have hk0 : i < need.length := by have h := of_decide_eq_true hc1; omega
      refine AWp.skip ?_
      refine AWp.seq ?_
      refine AWp.block ?_
      refine AWp.seq ?_
      refine AWp.seq ?_
      refine AWp.region ?_
      refine AList.c 23 rfl rfl rfl (OpJ.move rfl rfl) ?_
      refine AList.c 24 rfl rfl rfl (OpJ.move rfl rfl) ?_
      refine AList.c 25 rfl rfl rfl (OpJ.indexEl rfl rfl rfl sl22 el22 rfl (fun _ => rfl) (by decide) hk0) ?_
      refine AList.c 26 rfl rfl rfl (OpJ.load rfl rfl ty3 rfl) ?_
      refine AList.c 27 rfl rfl rfl (OpJ.callP (in_ok _ _ _) rfl rfl rfl rfl rf51) ?_
      refine AList.c 28 rfl rfl rfl (OpJ.not_ rfl rfl) ?_
      refine AList.nil ?_
      refine AWp.cond _ rfl (fun hc2 => ?_) (fun hc2 => ?_)
      · skip
        refine AWp.seq ?_
        refine AWp.region ?_
        refine AList.c 4 rfl rfl rfl (OpJ.assign rfl rfl) ?_
        refine AList.nil ?_
        refine AWp.ret ?_
        refine Fin.oneE rfl rfl ?_
        rw [decide_eq_false (p := Vld need l) (fun h => by have h1 := h.2.2.1 need[i] (List.getElem_mem _); simp at hc2; omega)]
      · skip
        have hni : 0 ≤ need[i] ∧ need[i] ≤ 48 := by simp at hc2; exact hc2
        have hts := take_sum hk0
        refine AWp.skip ?_
        refine AWp.region ?_
        refine AList.c 29 rfl rfl rfl (OpJ.move rfl rfl) ?_
        refine AList.c 30 rfl rfl rfl (OpJ.move rfl rfl) ?_
        refine AList.c 31 rfl rfl rfl (OpJ.move rfl rfl) ?_
        refine AList.c 32 rfl rfl rfl (OpJ.indexEl rfl rfl rfl sl22 el22 rfl (fun _ => rfl) (by decide) hk0) ?_
        refine AList.c 33 rfl rfl rfl (OpJ.load rfl rfl ty3 rfl) ?_
        refine AList.c 34 rfl rfl rfl (OpJ.add rfl rfl rfl (i64ok ?_)) ?_
        · omega
        refine AList.c 5 rfl rfl rfl (OpJ.assign rfl rfl) ?_
        refine AList.nil ?_
        refine AWp.region ?_
        refine AList.c 21 rfl rfl rfl (OpJ.move rfl rfl) ?_
        refine AList.c 22 rfl rfl rfl (OpJ.add rfl rfl rfl (i64ok ?_)) ?_
        · omega
        refine AList.c 6 rfl rfl rfl (OpJ.assign rfl rfl) ?_
        refine AList.nil ?_
        refine ⟨i + 1, ?_, ?_, ?_⟩
        · exact ⟨by omega, okN_take hk0 hg2 hni, by omega, by omega⟩
        · omega
        refine To.done [] rfl ?_ rfl
        refine Sub.cons rfl (Sub.cons ?_ (by repeat (first | exact Sub.nil | refine Sub.cons rfl ?_)))
        rw [hts]; rfl
    · skip
      obtain rfl : i = need.length := by have h := of_decide_eq_false hc1; omega
      have hN : okN need := fun x hx => hg2 x (by rw [List.take_length]; exact hx)
      refine AWp.exit ?_
      refine AWp.seq ?_
      refine AWp.seq ?_
      refine AWp.region ?_
      refine AList.c 7 rfl rfl rfl (OpJ.assign rfl rfl) ?_
      refine AList.nil ?_
      refine AWp.block ?_
      refine AWp.loopK [4, 7, 35, 36, 37, 38, 39, 40, 41, 42, 43, 44, 45, 46, 47, 48, 49, 50, 51, 52, 53, 54, 55, 56, 57, 58, 59, 60] (fun g => [(7, .p (.int .i64 ((g : Nat) : Int)))]) (fun g => g ≤ l.length ∧ ∀ p ∈ l.take g, okPr need.length p) (fun g => l.length - g) 0 ⟨Nat.zero_le _, fun x hx => by simp at hx⟩ (Sub.cons rfl (Sub.nil)) (fun j hh => ?_)
      obtain ⟨hh1, hh2⟩ := hh
      refine AWp.seq ?_
      refine AWp.seq ?_
      refine AWp.region ?_
      refine AList.c 35 rfl rfl rfl (OpJ.move rfl rfl) ?_
      refine AList.c 36 rfl rfl rfl (OpJ.move rfl rfl) ?_
      refine AList.c 37 rfl rfl rfl (OpJ.lenSlice rfl rfl sl23 rfl) ?_
      refine AList.c 38 rfl rfl rfl (OpJ.lss rfl rfl rfl) ?_
      refine AList.nil ?_
      refine AWp.cond _ rfl (fun hc3 => ?_) (fun hc3 => ?_)
      · skip
        have hk1 : j < l.length := by have h := of_decide_eq_true hc3; omega
        refine AWp.skip ?_
        refine AWp.seq ?_
        refine AWp.block ?_
        refine AWp.seq ?_
        refine AWp.regionDraw 20 mixed (by kernel_rfl) (by decide) ?_
        refine AQuiet.cons 41 rfl rfl rfl (OpJ.move rfl rfl) ?_
        refine AQuiet.cons 42 rfl rfl rfl (OpJ.move rfl rfl) ?_
        refine AQuiet.cons 43 rfl rfl rfl (OpJ.indexEl rfl rfl rfl sl23 el23 rfl (fun _ => rfl) (by decide) hk1) ?_
        refine AQuiet.cons 44 rfl rfl rfl (OpJ.fieldAddr rfl rfl fd46_0 rfl) ?_
        refine AQuiet.cons 45 rfl rfl rfl (OpJ.load rfl rfl ty3 rfl) ?_
        refine AQuiet.cons 46 rfl rfl rfl (OpJ.move rfl rfl) ?_
        refine AQuiet.cons 47 rfl rfl rfl (OpJ.lenSlice rfl rfl sl22 rfl) ?_
        refine AQuiet.cons 48 rfl rfl rfl (OpJ.callP (power_ok need.length (by omega)) rfl rfl rfl rfl rf38) ?_
        refine AQuiet.cons 49 rfl rfl rfl (OpJ.sub_ rfl rfl rfl (i64ok ?_)) ?_
        · omega
        refine AQuiet.cons 50 rfl rfl rfl (OpJ.callP (in_ok _ _ _) rfl rfl rfl rfl rf51) ?_
        refine AQuiet.cons 51 rfl rfl rfl (OpJ.not_ rfl rfl) ?_
        refine AQuiet.cons 52 rfl rfl rfl (OpJ.move rfl rfl) ?_
        refine AQuiet.guard 53 52 rfl rfl rfl rfl rfl rfl rfl [(1, _)] (fun h => And.intro (.inl rfl) (trivial)) (fun h => (OpJ.move rfl rfl)) ?_
        refine AQuiet.guard 54 52 rfl rfl rfl rfl rfl rfl rfl [(7, _)] (fun h => And.intro (.inl rfl) (trivial)) (fun h => (OpJ.move rfl rfl)) ?_
        refine AQuiet.guard 55 52 rfl rfl rfl rfl rfl rfl rfl [(53, _), (54, _)] (fun h => And.intro (.inr ⟨_, rfl, h⟩) (And.intro (.inr ⟨_, rfl, h⟩) (trivial))) (fun h => (OpJ.indexEl rfl rfl rfl sl23 el23 rfl (fun _ => rfl) (by decide) hk1)) ?_
        refine AQuiet.guard 56 52 rfl rfl rfl rfl rfl rfl rfl [(55, _)] (fun h => And.intro (.inr ⟨_, rfl, h⟩) (trivial)) (fun h => (OpJ.fieldAddr rfl rfl fd46_1 rfl)) ?_
        refine AQuiet.guard 57 52 rfl rfl rfl rfl rfl rfl rfl [(56, _)] (fun h => And.intro (.inr ⟨_, rfl, h⟩) (trivial)) (fun h => (OpJ.load rfl rfl ty3 rfl)) ?_
        refine AQuiet.guard 58 52 rfl rfl rfl rfl rfl rfl rfl [(57, _)] (fun h => And.intro (.inr ⟨_, rfl, h⟩) (trivial)) (fun h => (OpJ.callP (in_ok _ _ _) rfl rfl rfl rfl rf51)) ?_
        refine AQuiet.guard 59 52 rfl rfl rfl rfl rfl rfl rfl [(58, _)] (fun h => And.intro (.inr ⟨_, rfl, h⟩) (trivial)) (fun h => (OpJ.not_ rfl rfl)) ?_
        refine AQuiet.cons 60 rfl rfl rfl (OpJ.or_ rfl rfl rfl ?_) ?_
        · first | (intro h; rw [h]; rfl) | (intro h; simp_all)
        refine AQuiet.nil ?_
        refine AList.nil ?_
        refine AWp.cond _ rfl (fun hc4 => ?_) (fun hc4 => ?_)
        · skip
          refine AWp.seq ?_
          refine AWp.region ?_
          refine AList.c 4 rfl rfl rfl (OpJ.assign rfl rfl) ?_
          refine AList.nil ?_
          refine AWp.ret ?_
          refine Fin.oneE rfl rfl ?_
          rw [decide_eq_false (p := Vld need l) (fun h => by have h1 := h.2.2.2.1 l[j] (List.getElem_mem _); unfold okPr at h1; push_cast at h1; simp at hc4; omega)]
        · skip
          have hpj : okPr need.length l[j] := by simp at hc4; exact hc4
          refine AWp.skip ?_
          refine AWp.region ?_
          refine AList.c 39 rfl rfl rfl (OpJ.move rfl rfl) ?_
          refine AList.c 40 rfl rfl rfl (OpJ.add rfl rfl rfl (i64ok ?_)) ?_
          · omega
          refine AList.c 7 rfl rfl rfl (OpJ.assign rfl rfl) ?_
          refine AList.nil ?_
          refine ⟨j + 1, ?_, ?_, ?_⟩
          · exact ⟨by omega, okP_take hk1 hh2 hpj⟩
          · omega
          exact To.done [] rfl (by repeat (first | exact Sub.nil | refine Sub.cons rfl ?_)) rfl
      · skip
        obtain rfl : j = l.length := by have h := of_decide_eq_false hc3; omega
        refine AWp.exit ?_
        refine AWp.seq ?_
        refine AWp.region ?_
        refine AList.c 61 rfl rfl rfl (OpJ.move rfl rfl) ?_
        refine AList.c 62 rfl rfl rfl (OpJ.gtr rfl rfl rfl) ?_
        refine AList.c 4 rfl rfl rfl (OpJ.assign rfl rfl) ?_
        refine AList.nil ?_
        refine AWp.ret ?_
        refine Fin.oneE rfl rfl ?_
        have e : decide (Vld need l) = decide (0 < need.sum) := by
          rw [List.take_length] at hh2
          exact decide_eq_decide.2 ⟨fun h => h.2.2.2.2, fun h => ⟨hn8.1, hn8.2, hN, hh2, h⟩⟩
        rw [e]
        simp only [List.take_length]
end Go.Proofs.Ytpamkihpffoflaa
