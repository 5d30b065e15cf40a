/-
  The document's own functions: sets, and what each batch comes from.
-/
import Derived.Test.YtlalikkkobpfgaaDoorRcFactsB
import Derived.Test.YtlalikkkobpfgaaDoorRc7
import Derived.Test.YtlalikkkobpfgaaDoorRcX
set_option linter.unusedVariables false
set_option maxRecDepth 100000
set_option maxHeartbeats 4000000
set_option linter.unusedSimpArgs false
namespace Go.Proofs.YtlalikkkobpfgaaDoor
open Go.AF
theorem bk_get {l : List Bat} : ∀ k (h : k < (backs l l.length).length), (backs l l.length)[k] = backN l k := fun k h => by
  rw [ut_get k h, backs_at l (by rw [backs_len] at h; exact h)]
theorem chk00 (l : List Bat) : chkE l [0, 0] = chkE l [] := by
  unfold chkE
  have hp := (pw_B (Nat.zero_le l.length)).2
  have hp0 : pw 0 = 1 := rfl
  have h : inB 0 0 (pw l.length - 1) = true := by unfold inB; simp; omega
  simp [h]
theorem rjoin_ok (a b : Nat) (ha : a < 2 ^ 24) (hb : b < 2 ^ 24) : Pure Tryd.prog 41 [.int .i64 (a : Int), .int .i64 (b : Int)] (.int .i64 ((a ||| b : Nat) : Int)) := by
  refine Pure.start (N := 24) Tryd.func41 rfl rfl (Nat.le_of_ble_eq_true rfl) ?_
  refine AWp.seq ?_
  refine AWp.region ?_
  refine AList.c 4 rfl rfl rfl (OpJ.assign rfl rfl) ?_
  refine AList.nil ?_
  refine AWp.seq ?_
  refine AWp.region ?_
  refine AList.c 5 rfl rfl rfl (OpJ.assign rfl rfl) ?_
  refine AList.nil ?_
  refine AWp.seq ?_
  refine AWp.seq ?_
  refine AWp.region ?_
  refine AList.c 6 rfl rfl rfl (OpJ.assign rfl rfl) ?_
  refine AList.nil ?_
  refine AWp.block ?_
  refine AWp.loopKL [0, 1, 4, 23] (fun g => [(6, .p (.int .i64 ((g : Nat) : Int))), (5, .p (.int .i64 ((setOf (joP a b) g : Nat) : Int)))]) (fun g => g ≤ 24) (fun g => 24 - g) 0 (Nat.zero_le _) (Sub.cons rfl (Sub.cons rfl (Sub.nil))) (fun i hg => ?_)
  refine AWp.seq ?_
  refine AWp.seq ?_
  refine AWp.region ?_
  refine AList.c 7 rfl rfl rfl (OpJ.move rfl rfl) ?_
  refine AList.c 8 rfl rfl rfl (OpJ.lss rfl rfl rfl) ?_
  refine AList.nil ?_
  refine AWp.cond _ rfl (fun hc0 => ?_) (fun hc0 => ?_)
  · skip
    have hk0 : i < 24 := by have h := of_decide_eq_true hc0; omega
    have hsl := setOf_lt (joP a b) i
    have hpi := Nat.pow_le_pow_right (show 0 < 2 by omega) (show i ≤ 24 by omega)
    refine AWp.skip ?_
    refine AWp.seq ?_
    refine AWp.block ?_
    refine AWp.seq ?_
    refine AWp.region ?_
    refine AList.c 11 rfl rfl rfl (OpJ.move rfl rfl) ?_
    refine AList.c 12 rfl rfl rfl (OpJ.move rfl rfl) ?_
    refine AList.c 13 rfl rfl rfl (OpJ.callP (rhas_ok a i (by omega) (by omega)) rfl rfl rfl rfl rf22) ?_
    refine AList.c 14 rfl rfl rfl (OpJ.move rfl rfl) ?_
    refine AList.g 15 14 rfl rfl rfl rfl rfl rfl rfl [(1, _)] (fun h => And.intro (.inl rfl) (trivial)) (fun h => (OpJ.move rfl rfl)) ?_
    refine AList.g 16 14 rfl rfl rfl rfl rfl rfl rfl [(6, _)] (fun h => And.intro (.inl rfl) (trivial)) (fun h => (OpJ.move rfl rfl)) ?_
    refine AList.g 17 14 rfl rfl rfl rfl rfl rfl rfl [(15, _), (16, _)] (fun h => And.intro (.inr ⟨_, rfl, h⟩) (And.intro (.inr ⟨_, rfl, h⟩) (trivial))) (fun h => (OpJ.callP (rhas_ok b i (by omega) (by omega)) rfl rfl rfl rfl rf22)) ?_
    refine AList.c 18 rfl rfl rfl (OpJ.or_ rfl rfl rfl ?_) ?_
    · first | (intro h; rw [h]; rfl) | (intro h; simp_all)
    refine AList.nil ?_
    refine AWp.cond _ rfl (fun hc1 => ?_) (fun hc1 => ?_)
    · skip
      have hs : setOf (joP a b) (i + 1) = setOf (joP a b) i + 2 ^ i := setOf_T hc1
      refine AWp.region ?_
      refine AList.c 19 rfl rfl rfl (OpJ.move rfl rfl) ?_
      refine AList.c 20 rfl rfl rfl (OpJ.move rfl rfl) ?_
      refine AList.c 21 rfl rfl rfl (OpJ.callP (power_ok i (by omega)) rfl rfl rfl rfl rf39) ?_
      refine AList.c 22 rfl rfl rfl (OpJ.add (m := ((setOf (joP a b) i + 2 ^ i : Nat) : Int)) rfl rfl rfl ((i64ok ?_).trans ?_)) ?_
      · unfold pw; omega
      · unfold pw; omega
      refine AList.c 5 rfl rfl rfl (OpJ.assign rfl rfl) ?_
      refine AList.nil ?_
      refine AWp.region ?_
      refine AList.c 9 rfl rfl rfl (OpJ.move rfl rfl) ?_
      refine AList.c 10 rfl rfl rfl (OpJ.add rfl rfl rfl (i64ok ?_)) ?_
      · omega
      refine AList.c 6 rfl rfl rfl (OpJ.assign rfl rfl) ?_
      refine AList.nil ?_
      refine ⟨i + 1, ?_, ?_, ?_⟩
      · omega
      · omega
      refine To.done [] rfl (Sub.cons rfl (Sub.cons (by rw [hs]; rfl) (by repeat (first | exact Sub.nil | refine Sub.cons rfl ?_)))) rfl
    · skip
      have hs : setOf (joP a b) (i + 1) = setOf (joP a b) i := setOf_F hc1
      refine AWp.skip ?_
      refine AWp.region ?_
      refine AList.c 9 rfl rfl rfl (OpJ.move rfl rfl) ?_
      refine AList.c 10 rfl rfl rfl (OpJ.add rfl rfl rfl (i64ok ?_)) ?_
      · omega
      refine AList.c 6 rfl rfl rfl (OpJ.assign rfl rfl) ?_
      refine AList.nil ?_
      refine ⟨i + 1, ?_, ?_, ?_⟩
      · omega
      · omega
      refine To.done [] rfl (Sub.cons rfl (Sub.cons (by rw [hs]; rfl) (by repeat (first | exact Sub.nil | refine Sub.cons rfl ?_)))) rfl
  · skip
    obtain rfl : i = 24 := by have h := of_decide_eq_false hc0; omega
    refine AWp.exit ?_
    refine AWp.seq ?_
    refine AWp.region ?_
    refine AList.c 23 rfl rfl rfl (OpJ.move rfl rfl) ?_
    refine AList.c 4 rfl rfl rfl (OpJ.assign rfl rfl) ?_
    refine AList.nil ?_
    refine AWp.ret ?_
    refine Fin.oneE rfl rfl ?_
    rw [jo_all ha hb]
theorem rall_ok (l : List Bat) (hC : crdOk l) : Pure Tryd.prog 29 [batV l] (natsV (backs l l.length)) := by
  have h24 := crd24 hC
  refine Pure.start (N := 38) Tryd.func29 rfl rfl (Nat.le_of_ble_eq_true rfl) ?_
  refine AWp.seq ?_
  refine AWp.region ?_
  refine AList.c 2 rfl rfl rfl (OpJ.assign rfl rfl) ?_
  refine AList.nil ?_
  refine AWp.seq ?_
  refine AWp.region ?_
  refine AList.c 3 rfl rfl rfl (OpJ.assign rfl rfl) ?_
  refine AList.nil ?_
  refine AWp.seq ?_
  refine AWp.seq ?_
  refine AWp.region ?_
  refine AList.c 4 rfl rfl rfl (OpJ.assign rfl rfl) ?_
  refine AList.nil ?_
  refine AWp.block ?_
  refine AWp.loopHL [0, 2, 37] (fun g => [(4, .p (.int .i64 ((g : Nat) : Int))), (3, accV 0 g)]) (fun g => [accB (((backs l g).flatMap n64).map .p) 3 g]) (fun g => g ≤ l.length) (fun g => l.length - g) 0 (Nat.zero_le _) (To.pad.trans (To.sub (Sub.chk (Sub.cons rfl (Sub.cons rfl Sub.nil))))) (fun i hg => ?_)
  refine AWp.seq ?_
  refine AWp.seq ?_
  refine AWp.region ?_
  refine AList.c 7 rfl rfl rfl (OpJ.move rfl rfl) ?_
  refine AList.c 8 rfl rfl rfl (OpJ.move rfl rfl) ?_
  refine AList.c 9 rfl rfl rfl (OpJ.lenSlice rfl rfl sl22 rfl) ?_
  refine AList.c 10 rfl rfl rfl (OpJ.lss rfl rfl rfl) ?_
  refine AList.nil ?_
  refine AWp.cond _ rfl (fun hc0 => ?_) (fun hc0 => ?_)
  · skip
    have hk0 : i < l.length := by have h := of_decide_eq_true hc0; omega
    have hf := (hC i hk0).2.1
    have hp := pw24 (n := i) (by omega)
    have hfr : (bt l i).f = ((frN l i : Nat) : Int) := by unfold frN; omega
    have hfl : frN l i ≤ 16777216 := by unfold frN; omega
    have hpi := Nat.pow_le_pow_right (show 0 < 2 by omega) (show i + 1 ≤ 24 by omega)
    refine AWp.skip ?_
    refine AWp.seq ?_
    refine AWp.block ?_
    refine AWp.seq ?_
    refine AWp.region ?_
    refine AList.c 13 rfl rfl rfl (OpJ.move rfl rfl) ?_
    refine AList.c 14 rfl rfl rfl (OpJ.callP (power_ok i (by omega)) rfl rfl rfl rfl rf39) ?_
    refine AList.c 5 rfl rfl rfl (OpJ.assign rfl rfl) ?_
    refine AList.nil ?_
    refine AWp.seq ?_
    refine AWp.seq ?_
    refine AWp.region ?_
    refine AList.c 6 rfl rfl rfl (OpJ.assign rfl rfl) ?_
    refine AList.nil ?_
    refine AWp.block ?_
    refine AWp.loopHL [0, 2, 3, 4, 7, 8, 9, 10, 11, 12, 13, 14, 33, 34, 35, 36, 37] (fun g => [(6, .p (.int .i64 ((g : Nat) : Int))), (5, .p (.int .i64 ((stepB l (backs l i) i g : Nat) : Int)))]) (fun g => [accB (((backs l i).flatMap n64).map .p) 3 i]) (fun g => g ≤ i) (fun g => i - g) 0 (Nat.zero_le _) (To.sub (Sub.chk (Sub.cons rfl (Sub.cons rfl (Sub.nil))))) (fun k hh => ?_)
    refine AWp.seq ?_
    refine AWp.seq ?_
    refine AWp.region ?_
    refine AList.c 15 rfl rfl rfl (OpJ.move rfl rfl) ?_
    refine AList.c 16 rfl rfl rfl (OpJ.move rfl rfl) ?_
    refine AList.c 17 rfl rfl rfl (OpJ.lss rfl rfl rfl) ?_
    refine AList.nil ?_
    refine AWp.cond _ rfl (fun hc1 => ?_) (fun hc1 => ?_)
    · skip
      have hk1 : k < i := by have h := of_decide_eq_true hc1; omega
      have hi0 : 0 < i := by omega
      have hkl : k < (backs l i).length := by rw [backs_len]; exact hk1
      have hsl := stepB_lt l i k (by omega)
      have hbu : ut (backs l i) k = backN l k := backs_at l hk1
      have hbl := back_lt l k
      have hpk := Nat.pow_le_pow_right (show 0 < 2 by omega) (show k + 1 ≤ 24 by omega)
      have hu : ut (backs l i) k < 2 ^ 24 := by rw [hbu]; omega
      refine AWp.skip ?_
      refine AWp.seq ?_
      refine AWp.block ?_
      refine AWp.seq ?_
      refine AWp.region ?_
      refine AList.c 20 rfl rfl rfl (OpJ.move rfl rfl) ?_
      refine AList.c 21 rfl rfl rfl (OpJ.move rfl rfl) ?_
      refine AList.c 22 rfl rfl rfl (OpJ.indexG (g := bt l) bt_get rfl rfl rfl sl22 el22 rfl (fun _ => rfl) (by decide) hk0) ?_
      refine AList.c 23 rfl rfl rfl (OpJ.fieldAddr rfl rfl fd39_0 rfl) ?_
      refine AList.c 24 rfl rfl rfl (OpJ.load (v := .p (.int .i64 (bt l i).f)) rfl rfl ty3 rfl) ?_
      refine AList.c 25 rfl rfl rfl (OpJ.move rfl rfl) ?_
      rw [hfr]
      refine AList.c 26 rfl rfl rfl (OpJ.callP (rhas_ok (frN l i) k (by omega) (by omega)) rfl rfl rfl rfl rf22) ?_
      refine AList.nil ?_
      refine AWp.cond _ rfl (fun hc2 => ?_) (fun hc2 => ?_)
      · skip
        have hst : stepB l (backs l i) i (k + 1) = stepB l (backs l i) i k ||| ut (backs l i) k := by rw [stepB, if_pos hc2]
        refine AWp.region ?_
        refine AList.c 27 rfl rfl rfl (OpJ.move rfl rfl) ?_
        refine AList.c 28 rfl rfl rfl (OpJ.move rfl rfl) ?_
        refine AList.c 29 rfl rfl rfl (OpJ.move rfl rfl) ?_
        refine AList.c 30 rfl rfl rfl (OpJ.indexAcc rfl rfl rfl sl53 el53 hk1) ?_
        rw [accB_pos hi0]
        refine AList.c 31 rfl rfl rfl (OpJ.loadFlat (f := n64) (c := 1) (k := k) (j := 0) (xs := (backs l i)) rfl rfl ty3 rfl rfl (by omega) (fun _ => rfl) hkl (by decide) (show _ = PV.int .i64 ((ut (backs l i) k : Nat) : Int) from by rw [ut_get]; rfl)) ?_
        refine AList.c 32 rfl rfl rfl (OpJ.callP (rjoin_ok (stepB l (backs l i) i k) (ut (backs l i) k) (by omega) hu) rfl rfl rfl rfl rf41) ?_
        refine AList.c 5 rfl rfl rfl (OpJ.assign rfl rfl) ?_
        refine AList.nil ?_
        refine AWp.region ?_
        refine AList.c 18 rfl rfl rfl (OpJ.move rfl rfl) ?_
        refine AList.c 19 rfl rfl rfl (OpJ.add rfl rfl rfl (i64ok ?_)) ?_
        · omega
        refine AList.c 6 rfl rfl rfl (OpJ.assign rfl rfl) ?_
        refine AList.nil ?_
        refine ⟨k + 1, ?_, ?_, ?_⟩
        · omega
        · omega
        refine To.sub (Sub.cons rfl (Sub.cons (by rw [hst]; rfl) (by repeat (first | exact Sub.nil | refine Sub.cons rfl ?_))))
      · skip
        have hst : stepB l (backs l i) i (k + 1) = stepB l (backs l i) i k := by rw [stepB, if_neg (by rw [hc2]; decide)]
        refine AWp.skip ?_
        refine AWp.region ?_
        refine AList.c 18 rfl rfl rfl (OpJ.move rfl rfl) ?_
        refine AList.c 19 rfl rfl rfl (OpJ.add rfl rfl rfl (i64ok ?_)) ?_
        · omega
        refine AList.c 6 rfl rfl rfl (OpJ.assign rfl rfl) ?_
        refine AList.nil ?_
        refine ⟨k + 1, ?_, ?_, ?_⟩
        · omega
        · omega
        refine To.sub (Sub.cons rfl (Sub.cons (by rw [hst]; rfl) (by repeat (first | exact Sub.nil | refine Sub.cons rfl ?_))))
    · skip
      obtain rfl : i = k := by have h := of_decide_eq_false hc1; omega
      refine AWp.exit ?_
      refine AWp.region ?_
      refine AList.c 33 rfl rfl rfl (OpJ.move rfl rfl) ?_
      refine AList.c 34 rfl rfl rfl (OpJ.move rfl rfl) ?_
      refine AList.c 35 rfl rfl rfl (OpJ.buildImm rfl slz53 (by decide) rfl rfl rfl) ?_
      refine AList.c 36 rfl rfl rfl (OpJ.appendAcc rfl rfl rfl slz53 sl53 rfl ?_ rfl (by decide) rfl by3 (by decide) ?_) ?_
      · rw [List.length_map, flat_len (c := 1) (fun _ => rfl), backs_len]; rfl
      · omega
      refine AList.c 3 rfl rfl rfl (OpJ.assign rfl rfl) ?_
      refine AList.nil ?_
      refine AWp.region ?_
      refine AList.c 11 rfl rfl rfl (OpJ.move rfl rfl) ?_
      refine AList.c 12 rfl rfl rfl (OpJ.add rfl rfl rfl (i64ok ?_)) ?_
      · omega
      refine AList.c 4 rfl rfl rfl (OpJ.assign rfl rfl) ?_
      refine AList.nil ?_
      refine ⟨i + 1, ?_, ?_, ?_⟩
      · omega
      · omega
      refine To.done [1] rfl (by repeat (first | exact Sub.nil | refine Sub.cons rfl ?_)) ?_
      show [Blk.row (renL _ (_ ++ _)) _] = [Blk.row _ _]
      rw [renL_app, renL_pure, show backs l (i + 1) = backs l i ++ [stepB l (backs l i) i i] from rfl, List.flatMap_append, List.map_append]
      rfl
  · skip
    obtain rfl : i = l.length := by have h := of_decide_eq_false hc0; omega
    refine AWp.to (To.accD 3 0 l.length rfl rfl (fun h => by rw [h]; rfl)) ?_
    refine AWp.exit ?_
    refine AWp.seq ?_
    refine AWp.region ?_
    refine AList.c 37 rfl rfl rfl (OpJ.move rfl rfl) ?_
    refine AList.c 2 rfl rfl rfl (OpJ.assign rfl rfl) ?_
    refine AList.nil ?_
    refine AWp.ret ?_
    refine Fin.oneE rfl rfl ?_
    unfold natsV; rw [backs_len]
theorem rahead_ok (l : List Bat) (b : Nat) (hC : crdOk l) (hb : b < l.length) : Pure Tryd.prog 32 [batV l, .int .i64 (b : Int)] (.int .i64 ((aheadN l b : Nat) : Int)) := by
  have h24 := crd24 hC
  refine Pure.start (N := 27) Tryd.func32 rfl rfl (Nat.le_of_ble_eq_true rfl) ?_
  refine AWp.seq ?_
  refine AWp.region ?_
  refine AList.c 4 rfl rfl rfl (OpJ.assign rfl rfl) ?_
  refine AList.nil ?_
  refine AWp.seq ?_
  refine AWp.region ?_
  refine AList.c 8 rfl rfl rfl (OpJ.move rfl rfl) ?_
  refine AList.c 9 rfl rfl rfl (OpJ.callP (rall_ok l hC) rfl rfl rfl rfl rf29) ?_
  refine AList.c 5 rfl rfl rfl (OpJ.assign rfl rfl) ?_
  refine AList.c 6 rfl rfl rfl (OpJ.assign rfl rfl) ?_
  refine AList.nil ?_
  refine AWp.seq ?_
  refine AWp.seq ?_
  refine AWp.region ?_
  refine AList.c 7 rfl rfl rfl (OpJ.assign rfl rfl) ?_
  refine AList.nil ?_
  refine AWp.block ?_
  refine AWp.loopKL [0, 1, 4, 5, 26] (fun g => [(7, .p (.int .i64 ((g : Nat) : Int))), (6, .p (.int .i64 ((setOf (fun i => (backN l i).testBit b) g : Nat) : Int)))]) (fun g => g ≤ l.length) (fun g => l.length - g) 0 (Nat.zero_le _) (Sub.cons rfl (Sub.cons rfl (Sub.nil))) (fun i hg => ?_)
  refine AWp.seq ?_
  refine AWp.seq ?_
  refine AWp.region ?_
  refine AList.c 10 rfl rfl rfl (OpJ.move rfl rfl) ?_
  refine AList.c 11 rfl rfl rfl (OpJ.move rfl rfl) ?_
  refine AList.c 12 rfl rfl rfl (OpJ.lenSlice rfl rfl sl22 rfl) ?_
  refine AList.c 13 rfl rfl rfl (OpJ.lss rfl rfl rfl) ?_
  refine AList.nil ?_
  refine AWp.cond _ rfl (fun hc0 => ?_) (fun hc0 => ?_)
  · skip
    have hk0 : i < l.length := by have h := of_decide_eq_true hc0; omega
    have hsl := setOf_lt (fun i => (backN l i).testBit b) i
    have hpi := Nat.pow_le_pow_right (show 0 < 2 by omega) (show i + 1 ≤ 24 by omega)
    have hbl := back_lt l i
    have hpj := Nat.pow_succ 2 i
    refine AWp.skip ?_
    refine AWp.seq ?_
    refine AWp.block ?_
    refine AWp.seq ?_
    refine AWp.region ?_
    refine AList.c 16 rfl rfl rfl (OpJ.move rfl rfl) ?_
    refine AList.c 17 rfl rfl rfl (OpJ.move rfl rfl) ?_
    refine AList.c 18 rfl rfl rfl (OpJ.indexG (g := backN l) bk_get rfl rfl rfl sl53 el53 rfl (fun _ => rfl) (by decide) (by rw [backs_len]; exact hk0)) ?_
    refine AList.c 19 rfl rfl rfl (OpJ.load (v := .p (.int .i64 ((backN l i : Nat) : Int))) rfl rfl ty3 rfl) ?_
    refine AList.c 20 rfl rfl rfl (OpJ.move rfl rfl) ?_
    refine AList.c 21 rfl rfl rfl (OpJ.callP (rhas_ok (backN l i) b (by omega) (by omega)) rfl rfl rfl rfl rf22) ?_
    refine AList.nil ?_
    refine AWp.cond _ rfl (fun hc1 => ?_) (fun hc1 => ?_)
    · skip
      have hs : setOf (fun i => (backN l i).testBit b) (i + 1) = setOf (fun i => (backN l i).testBit b) i + 2 ^ i := setOf_T hc1
      refine AWp.region ?_
      refine AList.c 22 rfl rfl rfl (OpJ.move rfl rfl) ?_
      refine AList.c 23 rfl rfl rfl (OpJ.move rfl rfl) ?_
      refine AList.c 24 rfl rfl rfl (OpJ.callP (power_ok i (by omega)) rfl rfl rfl rfl rf39) ?_
      refine AList.c 25 rfl rfl rfl (OpJ.add (m := ((setOf (fun i => (backN l i).testBit b) i + 2 ^ i : Nat) : Int)) rfl rfl rfl ((i64ok ?_).trans ?_)) ?_
      · unfold pw; omega
      · unfold pw; omega
      refine AList.c 6 rfl rfl rfl (OpJ.assign rfl rfl) ?_
      refine AList.nil ?_
      refine AWp.region ?_
      refine AList.c 14 rfl rfl rfl (OpJ.move rfl rfl) ?_
      refine AList.c 15 rfl rfl rfl (OpJ.add rfl rfl rfl (i64ok ?_)) ?_
      · omega
      refine AList.c 7 rfl rfl rfl (OpJ.assign rfl rfl) ?_
      refine AList.nil ?_
      refine ⟨i + 1, ?_, ?_, ?_⟩
      · omega
      · omega
      refine To.done [] rfl (Sub.cons rfl (Sub.cons (by rw [hs]; rfl) (by repeat (first | exact Sub.nil | refine Sub.cons rfl ?_)))) rfl
    · skip
      have hs : setOf (fun i => (backN l i).testBit b) (i + 1) = setOf (fun i => (backN l i).testBit b) i := setOf_F hc1
      refine AWp.skip ?_
      refine AWp.region ?_
      refine AList.c 14 rfl rfl rfl (OpJ.move rfl rfl) ?_
      refine AList.c 15 rfl rfl rfl (OpJ.add rfl rfl rfl (i64ok ?_)) ?_
      · omega
      refine AList.c 7 rfl rfl rfl (OpJ.assign rfl rfl) ?_
      refine AList.nil ?_
      refine ⟨i + 1, ?_, ?_, ?_⟩
      · omega
      · omega
      refine To.done [] rfl (Sub.cons rfl (Sub.cons (by rw [hs]; rfl) (by repeat (first | exact Sub.nil | refine Sub.cons rfl ?_)))) rfl
  · skip
    obtain rfl : i = l.length := by have h := of_decide_eq_false hc0; omega
    refine AWp.exit ?_
    refine AWp.seq ?_
    refine AWp.region ?_
    refine AList.c 26 rfl rfl rfl (OpJ.move rfl rfl) ?_
    refine AList.c 4 rfl rfl rfl (OpJ.assign rfl rfl) ?_
    refine AList.nil ?_
    refine AWp.ret ?_
    exact Fin.oneE rfl rfl rfl
theorem rcheck_ok (l : List Bat) (a b : Int) (hb : l.length ≤ bigN) : Pure Tryd.prog 27 [batV l, .int .i64 a, .int .i64 b] (.int .i64 (chkE l [a, b])) := by
  refine Pure.start (N := 26) Tryd.func27 rfl rfl (Nat.le_of_ble_eq_true rfl) ?_
  refine AWp.seq ?_
  refine AWp.region ?_
  refine AList.c 6 rfl rfl rfl (OpJ.assign rfl rfl) ?_
  refine AList.nil ?_
  refine AWp.seq ?_
  refine AWp.seq ?_
  refine AWp.region ?_
  refine AList.c 7 rfl rfl rfl (OpJ.move rfl rfl) ?_
  refine AList.c 8 rfl rfl rfl (OpJ.callP (rcards_ok l hb) rfl rfl rfl rfl rf21) ?_
  refine AList.c 9 rfl rfl rfl (OpJ.not_ rfl rfl) ?_
  refine AList.nil ?_
  refine AWp.cond _ rfl (fun hc0 => ?_) (fun hc0 => ?_)
  · skip
    have hC : ¬ crdOk l := by simpa using hc0
    refine AWp.seq ?_
    refine AWp.region ?_
    refine AList.c 6 rfl rfl rfl (OpJ.assign rfl rfl) ?_
    refine AList.nil ?_
    refine AWp.ret ?_
    refine Fin.oneE rfl rfl ?_
    unfold chkE; rw [if_neg hC]
  · skip
    have hC : crdOk l := by simpa using hc0
    have h24 := crd24 hC
    have hp24 := pw24 h24
    refine AWp.skip ?_
    refine AWp.seq ?_
    refine AWp.seq ?_
    refine AWp.region ?_
    refine AList.c 10 rfl rfl rfl (OpJ.move rfl rfl) ?_
    refine AList.c 11 rfl rfl rfl (OpJ.move rfl rfl) ?_
    refine AList.c 12 rfl rfl rfl (OpJ.lenSlice rfl rfl sl22 rfl) ?_
    refine AList.c 13 rfl rfl rfl (OpJ.callP (power_ok l.length (by omega)) rfl rfl rfl rfl rf39) ?_
    refine AList.c 14 rfl rfl rfl (OpJ.sub_ rfl rfl rfl (i64ok ?_)) ?_
    · omega
    refine AList.c 15 rfl rfl rfl (OpJ.callP (in_ok _ _ _) rfl rfl rfl rfl rf28) ?_
    refine AList.c 16 rfl rfl rfl (OpJ.not_ rfl rfl) ?_
    refine AList.c 17 rfl rfl rfl (OpJ.move rfl rfl) ?_
    refine AList.g 18 17 rfl rfl rfl rfl rfl rfl rfl [(2, _)] (fun h => And.intro (.inl rfl) (trivial)) (fun h => (OpJ.move rfl rfl)) ?_
    refine AList.g 19 17 rfl rfl rfl rfl rfl rfl rfl [(0, _)] (fun h => And.intro (.inl rfl) (trivial)) (fun h => (OpJ.move rfl rfl)) ?_
    refine AList.g 20 17 rfl rfl rfl rfl rfl rfl rfl [(19, _)] (fun h => And.intro (.inr ⟨_, rfl, h⟩) (trivial)) (fun h => (OpJ.lenSlice rfl rfl sl22 rfl)) ?_
    refine AList.g 21 17 rfl rfl rfl rfl rfl rfl rfl [(20, _)] (fun h => And.intro (.inr ⟨_, rfl, h⟩) (trivial)) (fun h => (OpJ.callP (power_ok l.length (by omega)) rfl rfl rfl rfl rf39)) ?_
    refine AList.g 22 17 rfl rfl rfl rfl rfl rfl rfl [(21, _)] (fun h => And.intro (.inr ⟨_, rfl, h⟩) (trivial)) (fun h => (OpJ.sub_ rfl rfl rfl (i64ok ?_))) ?_
    · omega
    refine AList.g 23 17 rfl rfl rfl rfl rfl rfl rfl [(18, _), (22, _)] (fun h => And.intro (.inr ⟨_, rfl, h⟩) (And.intro (.inr ⟨_, rfl, h⟩) (trivial))) (fun h => (OpJ.callP (in_ok _ _ _) rfl rfl rfl rfl rf28)) ?_
    refine AList.g 24 17 rfl rfl rfl rfl rfl rfl rfl [(23, _)] (fun h => And.intro (.inr ⟨_, rfl, h⟩) (trivial)) (fun h => (OpJ.not_ rfl rfl)) ?_
    refine AList.c 25 rfl rfl rfl (OpJ.or_ rfl rfl rfl ?_) ?_
    · first | (intro h; rw [h]; rfl) | (intro h; simp_all)
    refine AList.nil ?_
    refine AWp.cond _ rfl (fun hc1 => ?_) (fun hc1 => ?_)
    · skip
      have hS : ([a, b].any fun n => !inB n 0 (pw l.length - 1)) = true := by rw [List.any_cons, List.any_cons, List.any_nil, Bool.or_false]; exact hc1
      refine AWp.seq ?_
      refine AWp.region ?_
      refine AList.c 6 rfl rfl rfl (OpJ.assign rfl rfl) ?_
      refine AList.nil ?_
      refine AWp.ret ?_
      refine Fin.oneE rfl rfl ?_
      unfold chkE; rw [if_pos hC, if_pos hS]
    · skip
      have hS : ([a, b].any fun n => !inB n 0 (pw l.length - 1)) = false := by rw [List.any_cons, List.any_cons, List.any_nil, Bool.or_false]; exact hc1
      refine AWp.skip ?_
      refine AWp.seq ?_
      refine AWp.region ?_
      refine AList.c 6 rfl rfl rfl (OpJ.assign rfl rfl) ?_
      refine AList.nil ?_
      refine AWp.ret ?_
      refine Fin.oneE rfl rfl ?_
      unfold chkE; rw [if_pos hC, if_neg (by rw [hS]; decide)]
theorem rcheck0 (l : List Bat) (hb : l.length ≤ bigN) : Pure Tryd.prog 27 [batV l, .int .i64 0, .int .i64 0] (.int .i64 (chkE l [])) := by
  have h := rcheck_ok l 0 0 hb
  rwa [chk00] at h
theorem rBack_ok (l : List Bat) (b : Int) (hb : l.length ≤ bigN) : Pure Tryd.prog 12 [batV l, .int .i64 b] (.tuple [.int .i64 ((fromN l (backN l) b : Nat) : Int), .int .i64 (fromE l b)]) := by
  have hb2 := hb
  unfold bigN at hb2
  refine Pure.start (N := 23) Tryd.func12 rfl rfl (Nat.le_of_ble_eq_true rfl) ?_
  refine AWp.seq ?_
  refine AWp.region ?_
  refine AList.c 4 rfl rfl rfl (OpJ.assign rfl rfl) ?_
  refine AList.c 5 rfl rfl rfl (OpJ.assign rfl rfl) ?_
  refine AList.nil ?_
  refine AWp.seq ?_
  refine AWp.region ?_
  refine AList.c 7 rfl rfl rfl (OpJ.move rfl rfl) ?_
  refine AList.c 8 rfl rfl rfl (OpJ.callP (rcheck0 l hb) rfl rfl rfl rfl rf27) ?_
  refine AList.c 6 rfl rfl rfl (OpJ.assign rfl rfl) ?_
  refine AList.nil ?_
  refine AWp.seq ?_
  refine AWp.seq ?_
  refine AWp.region ?_
  refine AList.c 9 rfl rfl rfl (OpJ.move rfl rfl) ?_
  refine AList.c 10 rfl rfl rfl (OpJ.neq rfl rfl rfl) ?_
  refine AList.nil ?_
  refine AWp.cond _ rfl (fun hc0 => ?_) (fun hc0 => ?_)
  · skip
    have hE : chkE l [] ≠ 0 := by simpa using hc0
    refine AWp.seq ?_
    refine AWp.region ?_
    refine AList.c 11 rfl rfl rfl (OpJ.move rfl rfl) ?_
    refine AList.c 4 rfl rfl rfl (OpJ.assign rfl rfl) ?_
    refine AList.c 5 rfl rfl rfl (OpJ.assign rfl rfl) ?_
    refine AList.nil ?_
    refine AWp.ret ?_
    refine Fin.manyE (xs := [.int .i64 0, .int .i64 (chkE l [])]) rfl (⟨_, _, rfl, rfl, ⟨_, _, rfl, rfl, rfl⟩⟩) rfl ?_
    have e : fromE l b = chkE l [] := by rw [chk_nil] at hE ⊢; unfold fromE; split <;> simp_all
    unfold fromN; rw [e, if_neg hE]; rfl
  · skip
    have hE : chkE l [] = 0 := by simpa using hc0
    have hC := (chk_ok hE).1
    have hS := (chk_ok hE).2
    have h24 := crd24 hC
    have hp24 := pw24 h24
    refine AWp.skip ?_
    refine AWp.seq ?_
    refine AWp.seq ?_
    refine AWp.region ?_
    refine AList.c 12 rfl rfl rfl (OpJ.move rfl rfl) ?_
    refine AList.c 13 rfl rfl rfl (OpJ.move rfl rfl) ?_
    refine AList.c 14 rfl rfl rfl (OpJ.lenSlice rfl rfl sl22 rfl) ?_
    refine AList.c 15 rfl rfl rfl (OpJ.sub_ rfl rfl rfl (i64ok ?_)) ?_
    · omega
    refine AList.c 16 rfl rfl rfl (OpJ.callP (in_ok _ _ _) rfl rfl rfl rfl rf28) ?_
    refine AList.c 17 rfl rfl rfl (OpJ.not_ rfl rfl) ?_
    refine AList.nil ?_
    refine AWp.cond _ rfl (fun hc1 => ?_) (fun hc1 => ?_)
    · skip
      have hI : ¬ inB b 0 ((l.length : Int) - 1) = true := by intro h; rw [h] at hc1; cases hc1
      refine AWp.seq ?_
      refine AWp.region ?_
      refine AList.c 4 rfl rfl rfl (OpJ.assign rfl rfl) ?_
      refine AList.c 5 rfl rfl rfl (OpJ.assign rfl rfl) ?_
      refine AList.nil ?_
      refine AWp.ret ?_
      refine Fin.manyE (xs := [.int .i64 0, .int .i64 2]) rfl (⟨_, _, rfl, rfl, ⟨_, _, rfl, rfl, rfl⟩⟩) rfl ?_
      have e : fromE l b = 2 := by unfold fromE; rw [if_pos hC, if_neg hI]
      unfold fromN; rw [e, if_neg (by decide)]; rfl
    · skip
      have hI : inB b 0 ((l.length : Int) - 1) = true := by simpa using hc1
      have hI2 := hI
      simp [inB] at hI2
      obtain ⟨b, rfl⟩ : ∃ m : Nat, b = (m : Int) := ⟨b.toNat, by omega⟩
      have hbl : b < l.length := by omega
      refine AWp.skip ?_
      refine AWp.seq ?_
      refine AWp.region ?_
      refine AList.c 18 rfl rfl rfl (OpJ.move rfl rfl) ?_
      refine AList.c 19 rfl rfl rfl (OpJ.callP (rall_ok l hC) rfl rfl rfl rfl rf29) ?_
      refine AList.c 20 rfl rfl rfl (OpJ.move rfl rfl) ?_
      refine AList.c 21 rfl rfl rfl (OpJ.indexG (g := backN l) bk_get rfl rfl rfl sl53 el53 rfl (fun _ => rfl) (by decide) (by rw [backs_len]; exact hbl)) ?_
      refine AList.c 22 rfl rfl rfl (OpJ.load (v := .p (.int .i64 ((backN l b : Nat) : Int))) rfl rfl ty3 rfl) ?_
      refine AList.c 4 rfl rfl rfl (OpJ.assign rfl rfl) ?_
      refine AList.c 5 rfl rfl rfl (OpJ.assign rfl rfl) ?_
      refine AList.nil ?_
      refine AWp.ret ?_
      refine Fin.manyE (xs := [.int .i64 ((backN l b : Nat) : Int), .int .i64 0]) rfl (⟨_, _, rfl, rfl, ⟨_, _, rfl, rfl, rfl⟩⟩) rfl ?_
      have e : fromE l (b : Int) = 0 := by unfold fromE; rw [if_pos hC, if_pos hI]
      unfold fromN; rw [e, if_pos rfl]; rfl
theorem rAhead_ok (l : List Bat) (b : Int) (hb : l.length ≤ bigN) : Pure Tryd.prog 14 [batV l, .int .i64 b] (.tuple [.int .i64 ((fromN l (aheadN l) b : Nat) : Int), .int .i64 (fromE l b)]) := by
  have hb2 := hb
  unfold bigN at hb2
  refine Pure.start (N := 21) Tryd.func14 rfl rfl (Nat.le_of_ble_eq_true rfl) ?_
  refine AWp.seq ?_
  refine AWp.region ?_
  refine AList.c 4 rfl rfl rfl (OpJ.assign rfl rfl) ?_
  refine AList.c 5 rfl rfl rfl (OpJ.assign rfl rfl) ?_
  refine AList.nil ?_
  refine AWp.seq ?_
  refine AWp.region ?_
  refine AList.c 7 rfl rfl rfl (OpJ.move rfl rfl) ?_
  refine AList.c 8 rfl rfl rfl (OpJ.callP (rcheck0 l hb) rfl rfl rfl rfl rf27) ?_
  refine AList.c 6 rfl rfl rfl (OpJ.assign rfl rfl) ?_
  refine AList.nil ?_
  refine AWp.seq ?_
  refine AWp.seq ?_
  refine AWp.region ?_
  refine AList.c 9 rfl rfl rfl (OpJ.move rfl rfl) ?_
  refine AList.c 10 rfl rfl rfl (OpJ.neq rfl rfl rfl) ?_
  refine AList.nil ?_
  refine AWp.cond _ rfl (fun hc0 => ?_) (fun hc0 => ?_)
  · skip
    have hE : chkE l [] ≠ 0 := by simpa using hc0
    refine AWp.seq ?_
    refine AWp.region ?_
    refine AList.c 11 rfl rfl rfl (OpJ.move rfl rfl) ?_
    refine AList.c 4 rfl rfl rfl (OpJ.assign rfl rfl) ?_
    refine AList.c 5 rfl rfl rfl (OpJ.assign rfl rfl) ?_
    refine AList.nil ?_
    refine AWp.ret ?_
    refine Fin.manyE (xs := [.int .i64 0, .int .i64 (chkE l [])]) rfl (⟨_, _, rfl, rfl, ⟨_, _, rfl, rfl, rfl⟩⟩) rfl ?_
    have e : fromE l b = chkE l [] := by rw [chk_nil] at hE ⊢; unfold fromE; split <;> simp_all
    unfold fromN; rw [e, if_neg hE]; rfl
  · skip
    have hE : chkE l [] = 0 := by simpa using hc0
    have hC := (chk_ok hE).1
    have hS := (chk_ok hE).2
    have h24 := crd24 hC
    have hp24 := pw24 h24
    refine AWp.skip ?_
    refine AWp.seq ?_
    refine AWp.seq ?_
    refine AWp.region ?_
    refine AList.c 12 rfl rfl rfl (OpJ.move rfl rfl) ?_
    refine AList.c 13 rfl rfl rfl (OpJ.move rfl rfl) ?_
    refine AList.c 14 rfl rfl rfl (OpJ.lenSlice rfl rfl sl22 rfl) ?_
    refine AList.c 15 rfl rfl rfl (OpJ.sub_ rfl rfl rfl (i64ok ?_)) ?_
    · omega
    refine AList.c 16 rfl rfl rfl (OpJ.callP (in_ok _ _ _) rfl rfl rfl rfl rf28) ?_
    refine AList.c 17 rfl rfl rfl (OpJ.not_ rfl rfl) ?_
    refine AList.nil ?_
    refine AWp.cond _ rfl (fun hc1 => ?_) (fun hc1 => ?_)
    · skip
      have hI : ¬ inB b 0 ((l.length : Int) - 1) = true := by intro h; rw [h] at hc1; cases hc1
      refine AWp.seq ?_
      refine AWp.region ?_
      refine AList.c 4 rfl rfl rfl (OpJ.assign rfl rfl) ?_
      refine AList.c 5 rfl rfl rfl (OpJ.assign rfl rfl) ?_
      refine AList.nil ?_
      refine AWp.ret ?_
      refine Fin.manyE (xs := [.int .i64 0, .int .i64 2]) rfl (⟨_, _, rfl, rfl, ⟨_, _, rfl, rfl, rfl⟩⟩) rfl ?_
      have e : fromE l b = 2 := by unfold fromE; rw [if_pos hC, if_neg hI]
      unfold fromN; rw [e, if_neg (by decide)]; rfl
    · skip
      have hI : inB b 0 ((l.length : Int) - 1) = true := by simpa using hc1
      have hI2 := hI
      simp [inB] at hI2
      obtain ⟨b, rfl⟩ : ∃ m : Nat, b = (m : Int) := ⟨b.toNat, by omega⟩
      have hbl : b < l.length := by omega
      refine AWp.skip ?_
      refine AWp.seq ?_
      refine AWp.region ?_
      refine AList.c 18 rfl rfl rfl (OpJ.move rfl rfl) ?_
      refine AList.c 19 rfl rfl rfl (OpJ.move rfl rfl) ?_
      refine AList.c 20 rfl rfl rfl (OpJ.callP (rahead_ok l b hC hbl) rfl rfl rfl rfl rf32) ?_
      refine AList.c 4 rfl rfl rfl (OpJ.assign rfl rfl) ?_
      refine AList.c 5 rfl rfl rfl (OpJ.assign rfl rfl) ?_
      refine AList.nil ?_
      refine AWp.ret ?_
      refine Fin.manyE (xs := [.int .i64 ((aheadN l b : Nat) : Int), .int .i64 0]) rfl (⟨_, _, rfl, rfl, ⟨_, _, rfl, rfl, rfl⟩⟩) rfl ?_
      have e : fromE l (b : Int) = 0 := by unfold fromE; rw [if_pos hC, if_pos hI]
      unfold fromN; rw [e, if_pos rfl]; rfl
end Go.Proofs.YtlalikkkobpfgaaDoor
