/-
  The document's own function: what is called back.
-/
import Derived.Test.YtlalikkkobpfgaaDoorRcFactsB
import Derived.Test.YtlalikkkobpfgaaDoorRc14
set_option linter.unusedVariables false
set_option maxRecDepth 100000
set_option maxHeartbeats 4000000
set_option linter.unusedSimpArgs false
namespace Go.Proofs.YtlalikkkobpfgaaDoor
open Go.AF
theorem rRecall_ok (l : List Bat) (bad good : Int) (hb : l.length ≤ bigN) : Pure Tryd.prog 20 [batV l, .int .i64 bad, .int .i64 good] (.tuple [.int .i64 ((recN l bad good : Nat) : Int), .agg [.int .i64 (recS l bad good).1, .int .i64 (recS l bad good).2], .int .i64 (blE l bad good)]) := by
  have hb2 := hb
  unfold bigN at hb2
  refine Pure.start (N := 85) Tryd.func20 rfl rfl (Nat.le_of_ble_eq_true rfl) ?_
  refine AWp.seq ?_
  refine AWp.region ?_
  refine AList.c 6 rfl rfl rfl (OpJ.assign rfl rfl) ?_
  refine AList.c 7 rfl rfl rfl (OpJ.allocOwn rfl zr32 rfl) ?_
  refine AList.c 8 rfl rfl rfl (OpJ.assign rfl rfl) ?_
  refine AList.nil ?_
  refine AWp.seq ?_
  refine AWp.region ?_
  refine AList.c 19 rfl rfl rfl (OpJ.move rfl rfl) ?_
  refine AList.c 20 rfl rfl rfl (OpJ.move rfl rfl) ?_
  refine AList.c 21 rfl rfl rfl (OpJ.move rfl rfl) ?_
  refine AList.c 22 rfl rfl rfl (OpJ.callP (rBlame_ok l bad good hb) rfl rfl rfl rfl rf18) ?_
  refine AList.c 18 rfl rfl rfl (OpJ.move rfl rfl) ?_
  refine AList.c 23 rfl rfl rfl (OpJ.extract rfl rfl rfl) ?_
  refine AList.c 24 rfl rfl rfl (OpJ.extract rfl rfl rfl) ?_
  refine AList.c 9 rfl rfl rfl (OpJ.assign rfl rfl) ?_
  refine AList.c 10 rfl rfl rfl (OpJ.assign rfl rfl) ?_
  refine AList.nil ?_
  refine AWp.seq ?_
  refine AWp.seq ?_
  refine AWp.region ?_
  refine AList.c 25 rfl rfl rfl (OpJ.move rfl rfl) ?_
  refine AList.c 26 rfl rfl rfl (OpJ.neq rfl rfl rfl) ?_
  refine AList.nil ?_
  refine AWp.cond _ rfl (fun hc0 => ?_) (fun hc0 => ?_)
  · skip
    have hE : blE l bad good ≠ 0 := by simpa using hc0
    refine AWp.seq ?_
    refine AWp.region ?_
    refine AList.c 27 rfl rfl rfl (OpJ.build rfl bd32 rfl rfl) ?_
    refine AList.c 28 rfl rfl rfl (OpJ.move rfl rfl) ?_
    refine AList.c 6 rfl rfl rfl (OpJ.assign rfl rfl) ?_
    refine AList.c0 rfl rfl (OpJ.store rfl rfl rfl rfl rfl ty32 rfl rfl) ?_
    refine AList.c 8 rfl rfl rfl (OpJ.assign rfl rfl) ?_
    refine AList.nil ?_
    refine AWp.ret ?_
    refine Fin.manyE (xs := [.int .i64 0, .agg [.int .i64 0, .int .i64 0], .int .i64 (blE l bad good)]) rfl (⟨_, _, rfl, rfl, ⟨_, _, rfl, ⟨_, _, _, rfl, ty32, rfl⟩, ⟨_, _, rfl, rfl, rfl⟩⟩⟩) rfl ?_
    unfold recN recS; rw [if_neg hE, if_neg hE]; rfl
  · skip
    have hE : blE l bad good = 0 := by simpa using hc0
    obtain ⟨hC, _, _, _, hR, hne, hcl⟩ := blR_of hE
    have h24 := crd24 hC
    have hp24 := Nat.pow_le_pow_right (show 0 < 2 by omega) (show l.length ≤ 24 by omega)
    obtain ⟨can, hcan⟩ : ∃ c, blR l bad good = c := ⟨_, rfl⟩
    rw [hcan] at hcl ⊢
    refine AWp.skip ?_
    refine AWp.seq ?_
    refine AWp.region ?_
    refine AList.c 11 rfl rfl rfl (OpJ.assign rfl rfl) ?_
    refine AList.c 12 rfl rfl rfl (OpJ.assign rfl rfl) ?_
    refine AList.nil ?_
    refine AWp.seq ?_
    refine AWp.region ?_
    refine AList.c 13 rfl rfl rfl (OpJ.allocOwn rfl zr32 rfl) ?_
    refine AList.nil ?_
    refine AWp.seq ?_
    refine AWp.seq ?_
    refine AWp.region ?_
    refine AList.c 14 rfl rfl rfl (OpJ.assign rfl rfl) ?_
    refine AList.nil ?_
    refine AWp.block ?_
    refine AWp.loopHL [0, 6, 7, 8, 9, 13, 83, 84] (fun g => [(14, .p (.int .i64 ((g : Nat) : Int))), (11, .p (.int .i64 ((callG l can g : Nat) : Int))), (12, .p (.bool (fstG can g)))]) (fun g => [.cells [.p (.int .i64 0), .p (.int .i64 0)] 32, .cells [.p (.int .i64 (spanG l can g).1), .p (.int .i64 (spanG l can g).2)] 32]) (fun g => g ≤ l.length) (fun g => l.length - g) 0 (Nat.zero_le _) (To.sub (Sub.chk (Sub.cons rfl (Sub.cons rfl (Sub.cons rfl (Sub.nil)))))) (fun i hg => ?_)
    refine AWp.seq ?_
    refine AWp.seq ?_
    refine AWp.region ?_
    refine AList.c 29 rfl rfl rfl (OpJ.move rfl rfl) ?_
    refine AList.c 30 rfl rfl rfl (OpJ.move rfl rfl) ?_
    refine AList.c 31 rfl rfl rfl (OpJ.lenSlice rfl rfl sl22 rfl) ?_
    refine AList.c 32 rfl rfl rfl (OpJ.lss rfl rfl rfl) ?_
    refine AList.nil ?_
    refine AWp.cond _ rfl (fun hc1 => ?_) (fun hc1 => ?_)
    · skip
      have hk0 : i < l.length := by have h := of_decide_eq_true hc1; omega
      have hal := (way_ahead hC).rlt i hk0
      refine AWp.skip ?_
      refine AWp.seq ?_
      refine AWp.block ?_
      refine AWp.seq ?_
      refine AWp.seq ?_
      refine AWp.region ?_
      refine AList.c 35 rfl rfl rfl (OpJ.move rfl rfl) ?_
      refine AList.c 36 rfl rfl rfl (OpJ.move rfl rfl) ?_
      refine AList.c 37 rfl rfl rfl (OpJ.callP (rhas_ok can i (by omega) (by omega)) rfl rfl rfl rfl rf22) ?_
      refine AList.c 38 rfl rfl rfl (OpJ.not_ rfl rfl) ?_
      refine AList.nil ?_
      refine AWp.cond _ rfl (fun hc2 => ?_) (fun hc2 => ?_)
      · skip
        have hcb : can.testBit i = false := by simpa using hc2
        have hm : callG l can (i + 1) = callG l can i := callG_F hcb
        have hs : spanG l can (i + 1) = spanG l can i := spanG_F hcb
        have hf : fstG can (i + 1) = fstG can i := fstG_F hcb
        refine AWp.exit ?_
        refine AWp.region ?_
        refine AList.c 33 rfl rfl rfl (OpJ.move rfl rfl) ?_
        refine AList.c 34 rfl rfl rfl (OpJ.add rfl rfl rfl (i64ok ?_)) ?_
        · omega
        refine AList.c 14 rfl rfl rfl (OpJ.assign rfl rfl) ?_
        refine AList.nil ?_
        refine ⟨i + 1, ?_, ?_, ?_⟩
        · omega
        · omega
        refine To.done [0, 1] rfl (Sub.cons rfl (Sub.cons (by rw [hm]; rfl) (Sub.cons (by rw [hf]; rfl) (by repeat (first | exact Sub.nil | refine Sub.cons rfl ?_))))) ?_
        rw [hs]
        rfl
      · skip
        have hcb : can.testBit i = true := by simpa using hc2
        have hf : fstG can (i + 1) = false := fstG_T hcb
        refine AWp.skip ?_
        refine AWp.seq ?_
        refine AWp.region ?_
        refine AList.c 39 rfl rfl rfl (OpJ.move rfl rfl) ?_
        refine AList.c 40 rfl rfl rfl (OpJ.move rfl rfl) ?_
        refine AList.c 41 rfl rfl rfl (OpJ.callP (rahead_ok l i hC hk0) rfl rfl rfl rfl rf32) ?_
        refine AList.c 15 rfl rfl rfl (OpJ.assign rfl rfl) ?_
        refine AList.c 16 rfl rfl rfl (OpJ.assign rfl rfl) ?_
        refine AList.nil ?_
        refine AWp.seq ?_
        refine AWp.seq ?_
        refine AWp.region ?_
        refine AList.c 17 rfl rfl rfl (OpJ.assign rfl rfl) ?_
        refine AList.nil ?_
        refine AWp.block ?_
        refine AWp.loopKL [0, 6, 7, 8, 9, 12, 13, 14, 15, 29, 30, 31, 32, 33, 34, 35, 36, 37, 38, 39, 40, 41, 70, 71, 72, 73, 74, 75, 76, 77, 78, 79, 80, 81, 82, 83, 84] (fun g => [(17, .p (.int .i64 ((g : Nat) : Int))), (16, .p (.int .i64 (sumK l (bitsN (ownN l i) g)))), (11, .p (.int .i64 ((innS l can i g : Nat) : Int)))]) (fun g => g ≤ l.length) (fun g => l.length - g) 0 (Nat.zero_le _) (Sub.cons rfl (Sub.cons rfl (Sub.cons (by rw [innS_0]; rfl) Sub.nil))) (fun k hh => ?_)
        refine AWp.seq ?_
        refine AWp.seq ?_
        refine AWp.region ?_
        refine AList.c 42 rfl rfl rfl (OpJ.move rfl rfl) ?_
        refine AList.c 43 rfl rfl rfl (OpJ.move rfl rfl) ?_
        refine AList.c 44 rfl rfl rfl (OpJ.lenSlice rfl rfl sl22 rfl) ?_
        refine AList.c 45 rfl rfl rfl (OpJ.lss rfl rfl rfl) ?_
        refine AList.nil ?_
        refine AWp.cond _ rfl (fun hc3 => ?_) (fun hc3 => ?_)
        · skip
          have hj0 : k < l.length := by have h := of_decide_eq_true hc3; omega
          have hB1 := sumK_bits_B hC i (show k ≤ l.length by omega)
          have hB2 := (hC k hj0).2.2
          have hil := innS_lt h24 can i k
          have hpk : 2 ^ k < 2 ^ 24 := Nat.pow_lt_pow_right (by omega) (by omega)
          refine AWp.skip ?_
          refine AWp.seq ?_
          refine AWp.block ?_
          refine AWp.seq ?_
          refine AWp.region ?_
          refine AList.c 48 rfl rfl rfl (OpJ.move rfl rfl) ?_
          refine AList.c 49 rfl rfl rfl (OpJ.move rfl rfl) ?_
          refine AList.c 50 rfl rfl rfl (OpJ.callP (rhas_ok (aheadN l i) k (by omega) (by omega)) rfl rfl rfl rfl rf22) ?_
          refine AList.c 51 rfl rfl rfl (OpJ.move rfl rfl) ?_
          refine AList.g 52 51 rfl rfl rfl rfl rfl rfl rfl [(0, _)] (fun h => And.intro (.inl rfl) (trivial)) (fun h => (OpJ.move rfl rfl)) ?_
          refine AList.g 53 51 rfl rfl rfl rfl rfl rfl rfl [(17, _)] (fun h => And.intro (.inl rfl) (trivial)) (fun h => (OpJ.move rfl rfl)) ?_
          refine AList.g 54 51 rfl rfl rfl rfl rfl rfl rfl [(52, _), (53, _)] (fun h => And.intro (.inr ⟨_, rfl, h⟩) (And.intro (.inr ⟨_, rfl, h⟩) (trivial))) (fun h => (OpJ.indexG (g := bt l) bt_get rfl rfl rfl sl22 el22 rfl (fun _ => rfl) (by decide) hj0)) ?_
          refine AList.g 55 51 rfl rfl rfl rfl rfl rfl rfl [(54, _)] (fun h => And.intro (.inr ⟨_, rfl, h⟩) (trivial)) (fun h => (OpJ.fieldAddr rfl rfl fd39_1 rfl)) ?_
          refine AList.g 56 51 rfl rfl rfl rfl rfl rfl rfl [(55, _)] (fun h => And.intro (.inr ⟨_, rfl, h⟩) (trivial)) (fun h => (OpJ.load (v := .p (.int .i64 (bt l k).s)) rfl rfl ty3 rfl)) ?_
          refine AList.g 57 51 rfl rfl rfl rfl rfl rfl rfl [(56, _)] (fun h => And.intro (.inr ⟨_, rfl, h⟩) (trivial)) (fun h => (OpJ.gtr rfl rfl rfl)) ?_
          refine AList.c 58 rfl rfl rfl (OpJ.and_ rfl rfl rfl ?_) ?_
          · first | (intro h; rw [h]; rfl) | (intro h; simp_all)
          refine AList.nil ?_
          refine AWp.cond _ rfl (fun hc4 => ?_) (fun hc4 => ?_)
          · skip
            have hob : (ownN l i).testBit k = true := by rw [← own_cond hj0]; exact hc4
            have hst1 := sum_T hob
            have hst2 : innS l can i (k + 1) = innS l can i k ||| 2 ^ k := innS_T hob
            refine AWp.seq ?_
            refine AWp.region ?_
            refine AList.c 59 rfl rfl rfl (OpJ.move rfl rfl) ?_
            refine AList.c 60 rfl rfl rfl (OpJ.move rfl rfl) ?_
            refine AList.c 61 rfl rfl rfl (OpJ.callP (power_ok k (by omega)) rfl rfl rfl rfl rf39) ?_
            refine AList.c 62 rfl rfl rfl (OpJ.callP (rjoin_ok (innS l can i k) (2 ^ k) hil hpk) rfl rfl rfl rfl rf41) ?_
            refine AList.c 11 rfl rfl rfl (OpJ.assign rfl rfl) ?_
            refine AList.nil ?_
            refine AWp.region ?_
            refine AList.c 63 rfl rfl rfl (OpJ.move rfl rfl) ?_
            refine AList.c 64 rfl rfl rfl (OpJ.move rfl rfl) ?_
            refine AList.c 65 rfl rfl rfl (OpJ.move rfl rfl) ?_
            refine AList.c 66 rfl rfl rfl (OpJ.indexG (g := bt l) bt_get rfl rfl rfl sl22 el22 rfl (fun _ => rfl) (by decide) hj0) ?_
            refine AList.c 67 rfl rfl rfl (OpJ.fieldAddr rfl rfl fd39_1 rfl) ?_
            refine AList.c 68 rfl rfl rfl (OpJ.load (v := .p (.int .i64 (bt l k).s)) rfl rfl ty3 rfl) ?_
            refine AList.c 69 rfl rfl rfl (OpJ.add rfl rfl rfl (i64ok ?_)) ?_
            · omega
            refine AList.c 16 rfl rfl rfl (OpJ.assign rfl rfl) ?_
            refine AList.nil ?_
            refine AWp.region ?_
            refine AList.c 46 rfl rfl rfl (OpJ.move rfl rfl) ?_
            refine AList.c 47 rfl rfl rfl (OpJ.add rfl rfl rfl (i64ok ?_)) ?_
            · omega
            refine AList.c 17 rfl rfl rfl (OpJ.assign rfl rfl) ?_
            refine AList.nil ?_
            refine ⟨k + 1, ?_, ?_, ?_⟩
            · omega
            · omega
            refine To.sub (Sub.cons rfl (Sub.cons (by rw [hst1]; rfl) (Sub.cons (by rw [hst2]; rfl) (by repeat (first | exact Sub.nil | refine Sub.cons rfl ?_)))))
          · skip
            have hob : (ownN l i).testBit k = false := by rw [← own_cond hj0]; exact hc4
            have hst1 := sum_F hob
            have hst2 : innS l can i (k + 1) = innS l can i k := innS_F hob
            refine AWp.skip ?_
            refine AWp.region ?_
            refine AList.c 46 rfl rfl rfl (OpJ.move rfl rfl) ?_
            refine AList.c 47 rfl rfl rfl (OpJ.add rfl rfl rfl (i64ok ?_)) ?_
            · omega
            refine AList.c 17 rfl rfl rfl (OpJ.assign rfl rfl) ?_
            refine AList.nil ?_
            refine ⟨k + 1, ?_, ?_, ?_⟩
            · omega
            · omega
            refine To.sub (Sub.cons rfl (Sub.cons (by rw [hst1]; rfl) (Sub.cons (by rw [hst2]; rfl) (by repeat (first | exact Sub.nil | refine Sub.cons rfl ?_)))))
        · skip
          obtain rfl : k = l.length := by have h := of_decide_eq_false hc3; omega
          have hm : callG l can (i + 1) = innS l can i l.length := callG_T hcb
          rw [cnt_all h24]
          refine AWp.exit ?_
          refine AWp.seq ?_
          refine AWp.seq ?_
          refine AWp.region ?_
          refine AList.c 70 rfl rfl rfl (OpJ.move rfl rfl) ?_
          refine AList.nil ?_
          refine AWp.cond _ rfl (fun hc5 => ?_) (fun hc5 => ?_)
          · skip
            have hs : spanG l can (i + 1) = (min (cntN l i) (cntN l i), max (cntN l i) (cntN l i)) := spanG_0 hcb hc5
            refine AWp.region ?_
            refine AList.c 71 rfl rfl rfl (OpJ.move rfl rfl) ?_
            refine AList.c 72 rfl rfl rfl (OpJ.move rfl rfl) ?_
            refine AList.c 73 rfl rfl rfl (OpJ.build rfl bd32 rfl rfl) ?_
            refine AList.c0 rfl rfl (OpJ.store rfl rfl rfl rfl rfl ty32 rfl rfl) ?_
            refine AList.nil ?_
            refine AWp.seq ?_
            refine AWp.region ?_
            refine AList.c 74 rfl rfl rfl (OpJ.fieldAddr rfl rfl fd32_0 rfl) ?_
            refine AList.c 75 rfl rfl rfl (OpJ.load rfl rfl ty3 rfl) ?_
            refine AList.c 76 rfl rfl rfl (OpJ.move rfl rfl) ?_
            refine AList.c 77 rfl rfl rfl (OpJ.min2 rfl rfl rfl) ?_
            refine AList.c 78 rfl rfl rfl (OpJ.fieldAddr rfl rfl fd32_1 rfl) ?_
            refine AList.c 79 rfl rfl rfl (OpJ.load rfl rfl ty3 rfl) ?_
            refine AList.c 80 rfl rfl rfl (OpJ.move rfl rfl) ?_
            refine AList.c 81 rfl rfl rfl (OpJ.max2 rfl rfl rfl) ?_
            refine AList.c 82 rfl rfl rfl (OpJ.build rfl bd32 rfl rfl) ?_
            refine AList.c0 rfl rfl (OpJ.store rfl rfl rfl rfl rfl ty32 rfl rfl) ?_
            refine AList.nil ?_
            refine AWp.region ?_
            refine AList.c 12 rfl rfl rfl (OpJ.assign rfl rfl) ?_
            refine AList.nil ?_
            refine AWp.region ?_
            refine AList.c 33 rfl rfl rfl (OpJ.move rfl rfl) ?_
            refine AList.c 34 rfl rfl rfl (OpJ.add rfl rfl rfl (i64ok ?_)) ?_
            · omega
            refine AList.c 14 rfl rfl rfl (OpJ.assign rfl rfl) ?_
            refine AList.nil ?_
            refine ⟨i + 1, ?_, ?_, ?_⟩
            · omega
            · omega
            refine To.done [0, 1] rfl (Sub.cons rfl (Sub.cons (by rw [hm]; rfl) (Sub.cons (by rw [hf]; rfl) (by repeat (first | exact Sub.nil | refine Sub.cons rfl ?_))))) ?_
            rw [hs]
            rfl
          · skip
            have hs : spanG l can (i + 1) = (min (spanG l can i).1 (cntN l i), max (spanG l can i).2 (cntN l i)) := spanG_T hcb hc5
            refine AWp.skip ?_
            refine AWp.seq ?_
            refine AWp.region ?_
            refine AList.c 74 rfl rfl rfl (OpJ.fieldAddr rfl rfl fd32_0 rfl) ?_
            refine AList.c 75 rfl rfl rfl (OpJ.load rfl rfl ty3 rfl) ?_
            refine AList.c 76 rfl rfl rfl (OpJ.move rfl rfl) ?_
            refine AList.c 77 rfl rfl rfl (OpJ.min2 rfl rfl rfl) ?_
            refine AList.c 78 rfl rfl rfl (OpJ.fieldAddr rfl rfl fd32_1 rfl) ?_
            refine AList.c 79 rfl rfl rfl (OpJ.load rfl rfl ty3 rfl) ?_
            refine AList.c 80 rfl rfl rfl (OpJ.move rfl rfl) ?_
            refine AList.c 81 rfl rfl rfl (OpJ.max2 rfl rfl rfl) ?_
            refine AList.c 82 rfl rfl rfl (OpJ.build rfl bd32 rfl rfl) ?_
            refine AList.c0 rfl rfl (OpJ.store rfl rfl rfl rfl rfl ty32 rfl rfl) ?_
            refine AList.nil ?_
            refine AWp.region ?_
            refine AList.c 12 rfl rfl rfl (OpJ.assign rfl rfl) ?_
            refine AList.nil ?_
            refine AWp.region ?_
            refine AList.c 33 rfl rfl rfl (OpJ.move rfl rfl) ?_
            refine AList.c 34 rfl rfl rfl (OpJ.add rfl rfl rfl (i64ok ?_)) ?_
            · omega
            refine AList.c 14 rfl rfl rfl (OpJ.assign rfl rfl) ?_
            refine AList.nil ?_
            refine ⟨i + 1, ?_, ?_, ?_⟩
            · omega
            · omega
            refine To.done [0, 1] rfl (Sub.cons rfl (Sub.cons (by rw [hm]; rfl) (Sub.cons (by rw [hf]; rfl) (by repeat (first | exact Sub.nil | refine Sub.cons rfl ?_))))) ?_
            rw [hs]
            rfl
    · skip
      obtain rfl : i = l.length := by have h := of_decide_eq_false hc1; omega
      rw [(rec_all h24 hcl).1, (rec_all h24 hcl).2]
      refine AWp.exit ?_
      refine AWp.seq ?_
      refine AWp.regionDraw 3 mixed (by kernel_rfl) (by decide) ?_
      refine AQuiet.cons 83 rfl rfl rfl (OpJ.move rfl rfl) ?_
      refine AQuiet.cons 84 rfl rfl rfl (OpJ.load (v := .p (.agg [.int .i64 (spanN l can).1, .int .i64 (spanN l can).2])) rfl rfl ty32 rfl) ?_
      refine AQuiet.cons 6 rfl rfl rfl (OpJ.assign rfl rfl) ?_
      refine AQuiet.nil ?_
      refine AList.c0 rfl rfl (OpJ.store rfl rfl rfl rfl rfl ty32 rfl rfl) ?_
      refine AList.c 8 rfl rfl rfl (OpJ.assign rfl rfl) ?_
      refine AList.nil ?_
      refine AWp.ret ?_
      refine Fin.manyE (xs := [.int .i64 ((callN l can : Nat) : Int), .agg [.int .i64 (spanN l can).1, .int .i64 (spanN l can).2], .int .i64 0]) rfl (⟨_, _, rfl, rfl, ⟨_, _, rfl, ⟨_, _, _, rfl, ty32, rfl⟩, ⟨_, _, rfl, rfl, rfl⟩⟩⟩) rfl ?_
      unfold recN recS; rw [hE, if_pos rfl, if_pos rfl, hcan]
end Go.Proofs.YtlalikkkobpfgaaDoor
