/-
  The document's own functions: blame, and what batches have in common.
-/
import Derived.Test.YtlalikkkobpfgaaDoorRcFactsB
import Derived.Test.YtlalikkkobpfgaaDoorRc13
set_option linter.unusedVariables false
set_option maxRecDepth 100000
set_option maxHeartbeats 4000000
set_option linter.unusedSimpArgs false
namespace Go.Proofs.YtlalikkkobpfgaaDoor
open Go.AF
theorem rblame_ok (l : List Bat) (bad good : Nat) (hC : crdOk l) (hbd : bad < 2 ^ l.length) (hgd : good < 2 ^ l.length) : Pure Tryd.prog 38 [batV l, .int .i64 (bad : Int), .int .i64 (good : Int)] (.int .i64 ((blameN l bad good : Nat) : Int)) := by
  have h24 := crd24 hC
  have hpl := Nat.pow_le_pow_right (show 0 < 2 by omega) (show l.length ≤ 24 by omega)
  refine Pure.start (N := 57) Tryd.func38 rfl rfl (Nat.le_of_ble_eq_true rfl) ?_
  refine AWp.seq ?_
  refine AWp.region ?_
  refine AList.c 6 rfl rfl rfl (OpJ.assign rfl rfl) ?_
  refine AList.nil ?_
  refine AWp.seq ?_
  refine AWp.region ?_
  refine AList.c 12 rfl rfl rfl (OpJ.move rfl rfl) ?_
  refine AList.c 13 rfl rfl rfl (OpJ.callP (rall_ok l hC) rfl rfl rfl rfl rf29) ?_
  refine AList.c 7 rfl rfl rfl (OpJ.assign rfl rfl) ?_
  refine AList.c 8 rfl rfl rfl (OpJ.assign rfl rfl) ?_
  refine AList.nil ?_
  refine AWp.seq ?_
  refine AWp.seq ?_
  refine AWp.region ?_
  refine AList.c 9 rfl rfl rfl (OpJ.assign rfl rfl) ?_
  refine AList.nil ?_
  refine AWp.block ?_
  refine AWp.loopKL [0, 1, 2, 6, 7, 56] (fun g => [(9, .p (.int .i64 ((g : Nat) : Int))), (8, .p (.int .i64 ((setOf (explB l bad good) g : Nat) : Int)))]) (fun g => g ≤ l.length) (fun g => l.length - g) 0 (Nat.zero_le _) (Sub.cons rfl (Sub.cons rfl (Sub.nil))) (fun i hg => ?_)
  refine AWp.seq ?_
  refine AWp.seq ?_
  refine AWp.region ?_
  refine AList.c 14 rfl rfl rfl (OpJ.move rfl rfl) ?_
  refine AList.c 15 rfl rfl rfl (OpJ.move rfl rfl) ?_
  refine AList.c 16 rfl rfl rfl (OpJ.lenSlice rfl rfl sl22 rfl) ?_
  refine AList.c 17 rfl rfl rfl (OpJ.lss rfl rfl rfl) ?_
  refine AList.nil ?_
  refine AWp.cond _ rfl (fun hc0 => ?_) (fun hc0 => ?_)
  · skip
    have hk0 : i < l.length := by have h := of_decide_eq_true hc0; omega
    have hsl := setOf_lt (explB l bad good) i
    have hpi := Nat.pow_le_pow_right (show 0 < 2 by omega) (show i ≤ 24 by omega)
    refine AWp.skip ?_
    refine AWp.seq ?_
    refine AWp.block ?_
    refine AWp.seq ?_
    refine AWp.region ?_
    refine AList.c 10 rfl rfl rfl (OpJ.assign rfl rfl) ?_
    refine AList.nil ?_
    refine AWp.seq ?_
    refine AWp.seq ?_
    refine AWp.region ?_
    refine AList.c 11 rfl rfl rfl (OpJ.assign rfl rfl) ?_
    refine AList.nil ?_
    refine AWp.block ?_
    refine AWp.loopKL [0, 1, 2, 6, 7, 8, 9, 14, 15, 16, 17, 18, 19, 51, 52, 53, 54, 55, 56] (fun g => [(11, .p (.int .i64 ((g : Nat) : Int))), (10, .p (.bool (exF l bad good i g)))]) (fun g => g ≤ l.length) (fun g => l.length - g) 0 (Nat.zero_le _) (Sub.cons rfl (Sub.cons rfl (Sub.nil))) (fun k hh => ?_)
    refine AWp.seq ?_
    refine AWp.seq ?_
    refine AWp.region ?_
    refine AList.c 20 rfl rfl rfl (OpJ.move rfl rfl) ?_
    refine AList.c 21 rfl rfl rfl (OpJ.move rfl rfl) ?_
    refine AList.c 22 rfl rfl rfl (OpJ.lenSlice rfl rfl sl22 rfl) ?_
    refine AList.c 23 rfl rfl rfl (OpJ.lss rfl rfl rfl) ?_
    refine AList.nil ?_
    refine AWp.cond _ rfl (fun hc1 => ?_) (fun hc1 => ?_)
    · skip
      have hj0 : k < l.length := by have h := of_decide_eq_true hc1; omega
      have hjb : k < (backs l l.length).length := by rw [backs_len]; exact hj0
      have hbk := back_lt l k
      have hpk := Nat.pow_le_pow_right (show 0 < 2 by omega) (show k + 1 ≤ 24 by omega)
      refine AWp.skip ?_
      refine AWp.seq ?_
      refine AWp.block ?_
      refine AWp.seq ?_
      refine AWp.region ?_
      refine AList.c 26 rfl rfl rfl (OpJ.move rfl rfl) ?_
      refine AList.c 27 rfl rfl rfl (OpJ.move rfl rfl) ?_
      refine AList.c 28 rfl rfl rfl (OpJ.callP (rhas_ok bad k (by omega) (by omega)) rfl rfl rfl rfl rf22) ?_
      refine AList.c 29 rfl rfl rfl (OpJ.move rfl rfl) ?_
      refine AList.g 30 29 rfl rfl rfl rfl rfl rfl rfl [(7, _)] (fun h => And.intro (.inl rfl) (trivial)) (fun h => (OpJ.move rfl rfl)) ?_
      refine AList.g 31 29 rfl rfl rfl rfl rfl rfl rfl [(11, _)] (fun h => And.intro (.inl rfl) (trivial)) (fun h => (OpJ.move rfl rfl)) ?_
      refine AList.g 32 29 rfl rfl rfl rfl rfl rfl rfl [(30, _), (31, _)] (fun h => And.intro (.inr ⟨_, rfl, h⟩) (And.intro (.inr ⟨_, rfl, h⟩) (trivial))) (fun h => (OpJ.indexG (g := backN l) bk_get rfl rfl rfl sl53 el53 rfl (fun _ => rfl) (by decide) hjb)) ?_
      refine AList.g 33 29 rfl rfl rfl rfl rfl rfl rfl [(32, _)] (fun h => And.intro (.inr ⟨_, rfl, h⟩) (trivial)) (fun h => (OpJ.load (v := .p (.int .i64 ((backN l k : Nat) : Int))) rfl rfl ty3 rfl)) ?_
      refine AList.g 34 29 rfl rfl rfl rfl rfl rfl rfl [(9, _)] (fun h => And.intro (.inl rfl) (trivial)) (fun h => (OpJ.move rfl rfl)) ?_
      refine AList.g 35 29 rfl rfl rfl rfl rfl rfl rfl [(33, _), (34, _)] (fun h => And.intro (.inr ⟨_, rfl, h⟩) (And.intro (.inr ⟨_, rfl, h⟩) (trivial))) (fun h => (OpJ.callP (rhas_ok (backN l k) i (by omega) (by omega)) rfl rfl rfl rfl rf22)) ?_
      refine AList.g 36 29 rfl rfl rfl rfl rfl rfl rfl [(35, _)] (fun h => And.intro (.inr ⟨_, rfl, h⟩) (trivial)) (fun h => (OpJ.not_ rfl rfl)) ?_
      refine AList.c 37 rfl rfl rfl (OpJ.and_ rfl rfl rfl ?_) ?_
      · first | (intro h; rw [h]; rfl) | (intro h; simp_all)
      refine AList.c 38 rfl rfl rfl (OpJ.move rfl rfl) ?_
      refine AList.g 39 38 rfl rfl rfl rfl rfl rfl rfl [(2, _)] (fun h => And.intro (.inl rfl) (trivial)) (fun h => (OpJ.move rfl rfl)) ?_
      refine AList.g 40 38 rfl rfl rfl rfl rfl rfl rfl [(11, _)] (fun h => And.intro (.inl rfl) (trivial)) (fun h => (OpJ.move rfl rfl)) ?_
      refine AList.g 41 38 rfl rfl rfl rfl rfl rfl rfl [(39, _), (40, _)] (fun h => And.intro (.inr ⟨_, rfl, h⟩) (And.intro (.inr ⟨_, rfl, h⟩) (trivial))) (fun h => (OpJ.callP (rhas_ok good k (by omega) (by omega)) rfl rfl rfl rfl rf22)) ?_
      refine AList.g 42 38 rfl rfl rfl rfl rfl rfl rfl [(41, _)] (fun h => And.intro (.inr ⟨_, rfl, h⟩) (trivial)) (fun h => (OpJ.move rfl rfl)) ?_
      refine AList.g 43 42 rfl rfl rfl rfl rfl rfl rfl [(7, _)] (fun h => And.intro (.inl rfl) (trivial)) (fun h => (OpJ.move rfl rfl)) ?_
      refine AList.g 44 42 rfl rfl rfl rfl rfl rfl rfl [(11, _)] (fun h => And.intro (.inl rfl) (trivial)) (fun h => (OpJ.move rfl rfl)) ?_
      refine AList.g 45 42 rfl rfl rfl rfl rfl rfl rfl [(43, _), (44, _)] (fun h => And.intro (.inr ⟨_, rfl, h⟩) (And.intro (.inr ⟨_, rfl, h⟩) (trivial))) (fun h => (OpJ.indexG (g := backN l) bk_get rfl rfl rfl sl53 el53 rfl (fun _ => rfl) (by decide) hjb)) ?_
      refine AList.g 46 42 rfl rfl rfl rfl rfl rfl rfl [(45, _)] (fun h => And.intro (.inr ⟨_, rfl, h⟩) (trivial)) (fun h => (OpJ.load (v := .p (.int .i64 ((backN l k : Nat) : Int))) rfl rfl ty3 rfl)) ?_
      refine AList.g 47 42 rfl rfl rfl rfl rfl rfl rfl [(9, _)] (fun h => And.intro (.inl rfl) (trivial)) (fun h => (OpJ.move rfl rfl)) ?_
      refine AList.g 48 42 rfl rfl rfl rfl rfl rfl rfl [(46, _), (47, _)] (fun h => And.intro (.inr ⟨_, rfl, h⟩) (And.intro (.inr ⟨_, rfl, h⟩) (trivial))) (fun h => (OpJ.callP (rhas_ok (backN l k) i (by omega) (by omega)) rfl rfl rfl rfl rf22)) ?_
      refine AList.g 49 38 rfl rfl rfl rfl rfl rfl rfl [(42, _), (48, _)] (fun h => And.intro (.inr ⟨_, rfl, h⟩) (And.intro (.inl rfl) (trivial))) (fun h => (OpJ.and_ rfl rfl rfl ?_)) ?_
      · first | (intro h; rw [h]; rfl) | (intro h; simp_all)
      refine AList.c 50 rfl rfl rfl (OpJ.or_ rfl rfl rfl ?_) ?_
      · first | (intro h; rw [h]; rfl) | (intro h; simp_all)
      refine AList.nil ?_
      refine AWp.cond _ rfl (fun hc2 => ?_) (fun hc2 => ?_)
      · skip
        have hx : exF l bad good i (k + 1) = false := exF_F (exT_eq (c := true) hc2)
        refine AWp.region ?_
        refine AList.c 10 rfl rfl rfl (OpJ.assign rfl rfl) ?_
        refine AList.nil ?_
        refine AWp.region ?_
        refine AList.c 24 rfl rfl rfl (OpJ.move rfl rfl) ?_
        refine AList.c 25 rfl rfl rfl (OpJ.add rfl rfl rfl (i64ok ?_)) ?_
        · omega
        refine AList.c 11 rfl rfl rfl (OpJ.assign rfl rfl) ?_
        refine AList.nil ?_
        refine ⟨k + 1, ?_, ?_, ?_⟩
        · omega
        · omega
        refine To.done [] rfl (Sub.cons rfl (Sub.cons (by rw [hx]; rfl) (by repeat (first | exact Sub.nil | refine Sub.cons rfl ?_)))) rfl
      · skip
        have hx : exF l bad good i (k + 1) = exF l bad good i k := exF_T (exT_eq (c := false) hc2)
        refine AWp.skip ?_
        refine AWp.region ?_
        refine AList.c 24 rfl rfl rfl (OpJ.move rfl rfl) ?_
        refine AList.c 25 rfl rfl rfl (OpJ.add rfl rfl rfl (i64ok ?_)) ?_
        · omega
        refine AList.c 11 rfl rfl rfl (OpJ.assign rfl rfl) ?_
        refine AList.nil ?_
        refine ⟨k + 1, ?_, ?_, ?_⟩
        · omega
        · omega
        refine To.done [] rfl (Sub.cons rfl (Sub.cons (by rw [hx]; rfl) (by repeat (first | exact Sub.nil | refine Sub.cons rfl ?_)))) rfl
    · skip
      obtain rfl : k = l.length := by have h := of_decide_eq_false hc1; omega
      refine AWp.exit ?_
      refine AWp.seq ?_
      refine AWp.region ?_
      refine AList.c 51 rfl rfl rfl (OpJ.move rfl rfl) ?_
      refine AList.nil ?_
      refine AWp.cond _ rfl (fun hc3 => ?_) (fun hc3 => ?_)
      · skip
        have hs : setOf (explB l bad good) (i + 1) = setOf (explB l bad good) i + 2 ^ i := setOf_T (show explB l bad good i = true from hc3)
        refine AWp.region ?_
        refine AList.c 52 rfl rfl rfl (OpJ.move rfl rfl) ?_
        refine AList.c 53 rfl rfl rfl (OpJ.move rfl rfl) ?_
        refine AList.c 54 rfl rfl rfl (OpJ.callP (power_ok i (by omega)) rfl rfl rfl rfl rf39) ?_
        refine AList.c 55 rfl rfl rfl (OpJ.add (m := ((setOf (explB l bad good) i + 2 ^ i : Nat) : Int)) rfl rfl rfl ((i64ok ?_).trans ?_)) ?_
        · unfold pw; omega
        · unfold pw; omega
        refine AList.c 8 rfl rfl rfl (OpJ.assign rfl rfl) ?_
        refine AList.nil ?_
        refine AWp.region ?_
        refine AList.c 18 rfl rfl rfl (OpJ.move rfl rfl) ?_
        refine AList.c 19 rfl rfl rfl (OpJ.add rfl rfl rfl (i64ok ?_)) ?_
        · omega
        refine AList.c 9 rfl rfl rfl (OpJ.assign rfl rfl) ?_
        refine AList.nil ?_
        refine ⟨i + 1, ?_, ?_, ?_⟩
        · omega
        · omega
        refine To.done [] rfl (Sub.cons rfl (Sub.cons (by rw [hs]; rfl) (by repeat (first | exact Sub.nil | refine Sub.cons rfl ?_)))) rfl
      · skip
        have hs : setOf (explB l bad good) (i + 1) = setOf (explB l bad good) i := setOf_F (show explB l bad good i = false from hc3)
        refine AWp.skip ?_
        refine AWp.region ?_
        refine AList.c 18 rfl rfl rfl (OpJ.move rfl rfl) ?_
        refine AList.c 19 rfl rfl rfl (OpJ.add rfl rfl rfl (i64ok ?_)) ?_
        · omega
        refine AList.c 9 rfl rfl rfl (OpJ.assign rfl rfl) ?_
        refine AList.nil ?_
        refine ⟨i + 1, ?_, ?_, ?_⟩
        · omega
        · omega
        refine To.done [] rfl (Sub.cons rfl (Sub.cons (by rw [hs]; rfl) (by repeat (first | exact Sub.nil | refine Sub.cons rfl ?_)))) rfl
  · skip
    obtain rfl : i = l.length := by have h := of_decide_eq_false hc0; omega
    refine AWp.exit ?_
    refine AWp.seq ?_
    refine AWp.region ?_
    refine AList.c 56 rfl rfl rfl (OpJ.move rfl rfl) ?_
    refine AList.c 6 rfl rfl rfl (OpJ.assign rfl rfl) ?_
    refine AList.nil ?_
    refine AWp.ret ?_
    exact Fin.oneE rfl rfl rfl
theorem rBlame_ok (l : List Bat) (bad good : Int) (hb : l.length ≤ bigN) : Pure Tryd.prog 18 [batV l, .int .i64 bad, .int .i64 good] (.tuple [.int .i64 ((blR l bad good : Nat) : Int), .int .i64 (blE l bad good)]) := by
  refine Pure.start (N := 26) Tryd.func18 rfl rfl (Nat.le_of_ble_eq_true rfl) ?_
  refine AWp.seq ?_
  refine AWp.region ?_
  refine AList.c 6 rfl rfl rfl (OpJ.assign rfl rfl) ?_
  refine AList.c 7 rfl rfl rfl (OpJ.assign rfl rfl) ?_
  refine AList.nil ?_
  refine AWp.seq ?_
  refine AWp.region ?_
  refine AList.c 10 rfl rfl rfl (OpJ.move rfl rfl) ?_
  refine AList.c 11 rfl rfl rfl (OpJ.move rfl rfl) ?_
  refine AList.c 12 rfl rfl rfl (OpJ.move rfl rfl) ?_
  refine AList.c 13 rfl rfl rfl (OpJ.callP (rcheck_ok l bad good hb) rfl rfl rfl rfl rf27) ?_
  refine AList.c 8 rfl rfl rfl (OpJ.assign rfl rfl) ?_
  refine AList.nil ?_
  refine AWp.seq ?_
  refine AWp.seq ?_
  refine AWp.region ?_
  refine AList.c 14 rfl rfl rfl (OpJ.move rfl rfl) ?_
  refine AList.c 15 rfl rfl rfl (OpJ.neq rfl rfl rfl) ?_
  refine AList.nil ?_
  refine AWp.cond _ rfl (fun hc0 => ?_) (fun hc0 => ?_)
  · skip
    have hE : chkE l [bad, good] ≠ 0 := by simpa using hc0
    refine AWp.seq ?_
    refine AWp.region ?_
    refine AList.c 16 rfl rfl rfl (OpJ.move rfl rfl) ?_
    refine AList.c 6 rfl rfl rfl (OpJ.assign rfl rfl) ?_
    refine AList.c 7 rfl rfl rfl (OpJ.assign rfl rfl) ?_
    refine AList.nil ?_
    refine AWp.ret ?_
    refine Fin.manyE (xs := [.int .i64 0, .int .i64 (chkE l [bad, good])]) rfl (⟨_, _, rfl, rfl, ⟨_, _, rfl, rfl, rfl⟩⟩) rfl ?_
    have e : blE l bad good = chkE l [bad, good] := by unfold blE; rw [if_pos hE]
    unfold blR; rw [e, if_neg hE]; rfl
  · skip
    have hE : chkE l [bad, good] = 0 := by simpa using hc0
    have hC := (chk_ok hE).1
    have hS := (chk_ok hE).2
    have h24 := crd24 hC
    have hp24 := pw24 h24
    have hS1 := hS bad (by simp)
    have hS2 := hS good (by simp)
    refine AWp.skip ?_
    refine AWp.seq ?_
    refine AWp.seq ?_
    refine AWp.region ?_
    refine AList.c 17 rfl rfl rfl (OpJ.move rfl rfl) ?_
    refine AList.c 18 rfl rfl rfl (OpJ.eql rfl rfl rfl) ?_
    refine AList.nil ?_
    refine AWp.cond _ rfl (fun hc1 => ?_) (fun hc1 => ?_)
    · skip
      have hz : bad = 0 := by simpa using hc1
      refine AWp.seq ?_
      refine AWp.region ?_
      refine AList.c 6 rfl rfl rfl (OpJ.assign rfl rfl) ?_
      refine AList.c 7 rfl rfl rfl (OpJ.assign rfl rfl) ?_
      refine AList.nil ?_
      refine AWp.ret ?_
      refine Fin.manyE (xs := [.int .i64 0, .int .i64 4]) rfl (⟨_, _, rfl, rfl, ⟨_, _, rfl, rfl, rfl⟩⟩) rfl ?_
      have e : blE l bad good = 4 := by unfold blE; rw [if_neg (not_not_intro hE), if_pos hz]
      unfold blR; rw [e, if_neg (by decide)]; rfl
    · skip
      have hz : ¬ bad = 0 := by simpa using hc1
      obtain ⟨bad, rfl⟩ : ∃ m : Nat, bad = (m : Int) := ⟨bad.toNat, by omega⟩
      obtain ⟨good, rfl⟩ : ∃ m : Nat, good = (m : Int) := ⟨good.toNat, by omega⟩
      refine AWp.skip ?_
      refine AWp.seq ?_
      refine AWp.region ?_
      refine AList.c 19 rfl rfl rfl (OpJ.move rfl rfl) ?_
      refine AList.c 20 rfl rfl rfl (OpJ.move rfl rfl) ?_
      refine AList.c 21 rfl rfl rfl (OpJ.move rfl rfl) ?_
      refine AList.c 22 rfl rfl rfl (OpJ.callP (rblame_ok l bad good hC (by unfold pw at hS1; omega) (by unfold pw at hS2; omega)) rfl rfl rfl rfl rf38) ?_
      refine AList.c 9 rfl rfl rfl (OpJ.assign rfl rfl) ?_
      refine AList.nil ?_
      refine AWp.seq ?_
      refine AWp.seq ?_
      refine AWp.region ?_
      refine AList.c 23 rfl rfl rfl (OpJ.move rfl rfl) ?_
      refine AList.c 24 rfl rfl rfl (OpJ.eql rfl rfl rfl) ?_
      refine AList.nil ?_
      refine AWp.cond _ rfl (fun hc2 => ?_) (fun hc2 => ?_)
      · skip
        have hn : blameN l bad good = 0 := by have h : ((blameN l bad good : Nat) : Int) = 0 := (by simpa using hc2); omega
        refine AWp.seq ?_
        refine AWp.region ?_
        refine AList.c 6 rfl rfl rfl (OpJ.assign rfl rfl) ?_
        refine AList.c 7 rfl rfl rfl (OpJ.assign rfl rfl) ?_
        refine AList.nil ?_
        refine AWp.ret ?_
        refine Fin.manyE (xs := [.int .i64 0, .int .i64 6]) rfl (⟨_, _, rfl, rfl, ⟨_, _, rfl, rfl, rfl⟩⟩) rfl ?_
        have e : blE l (bad : Int) (good : Int) = 6 := by unfold blE; rw [if_neg (not_not_intro hE), if_neg hz, if_pos (show blameN l (bad : Int).toNat (good : Int).toNat = 0 from hn)]
        unfold blR; rw [e, if_neg (by decide)]; rfl
      · skip
        have hn : ¬ blameN l bad good = 0 := by intro h; rw [h] at hc2; simp at hc2
        refine AWp.skip ?_
        refine AWp.seq ?_
        refine AWp.region ?_
        refine AList.c 25 rfl rfl rfl (OpJ.move rfl rfl) ?_
        refine AList.c 6 rfl rfl rfl (OpJ.assign rfl rfl) ?_
        refine AList.c 7 rfl rfl rfl (OpJ.assign rfl rfl) ?_
        refine AList.nil ?_
        refine AWp.ret ?_
        refine Fin.manyE (xs := [.int .i64 ((blameN l bad good : Nat) : Int), .int .i64 0]) rfl (⟨_, _, rfl, rfl, ⟨_, _, rfl, rfl, rfl⟩⟩) rfl ?_
        have e : blE l (bad : Int) (good : Int) = 0 := by unfold blE; rw [if_neg (not_not_intro hE), if_neg hz, if_neg (show ¬ blameN l (bad : Int).toNat (good : Int).toNat = 0 from hn)]
        unfold blR; rw [e, if_pos rfl]; rfl
theorem rCommon_ok (l : List Bat) (lots : Int) (hb : l.length ≤ bigN) : Pure Tryd.prog 16 [batV l, .int .i64 lots] (.tuple [.int .i64 ((cmA l lots : Nat) : Int), .int .i64 ((cmL l lots : Nat) : Int), .int .i64 (cmE l lots)]) := by
  have hb2 := hb
  unfold bigN at hb2
  refine Pure.start (N := 69) Tryd.func16 rfl rfl (Nat.le_of_ble_eq_true rfl) ?_
  refine AWp.seq ?_
  refine AWp.region ?_
  refine AList.c 4 rfl rfl rfl (OpJ.assign rfl rfl) ?_
  refine AList.c 5 rfl rfl rfl (OpJ.assign rfl rfl) ?_
  refine AList.c 6 rfl rfl rfl (OpJ.assign rfl rfl) ?_
  refine AList.nil ?_
  refine AWp.seq ?_
  refine AWp.region ?_
  refine AList.c 14 rfl rfl rfl (OpJ.move rfl rfl) ?_
  refine AList.c 15 rfl rfl rfl (OpJ.move rfl rfl) ?_
  refine AList.c 16 rfl rfl rfl (OpJ.callP (rcheck_ok l lots 0 hb) rfl rfl rfl rfl rf27) ?_
  refine AList.c 7 rfl rfl rfl (OpJ.assign rfl rfl) ?_
  refine AList.nil ?_
  refine AWp.seq ?_
  refine AWp.seq ?_
  refine AWp.region ?_
  refine AList.c 17 rfl rfl rfl (OpJ.move rfl rfl) ?_
  refine AList.c 18 rfl rfl rfl (OpJ.neq rfl rfl rfl) ?_
  refine AList.nil ?_
  refine AWp.cond _ rfl (fun hc0 => ?_) (fun hc0 => ?_)
  · skip
    have hE : chkE l [lots, 0] ≠ 0 := by simpa using hc0
    refine AWp.seq ?_
    refine AWp.region ?_
    refine AList.c 19 rfl rfl rfl (OpJ.move rfl rfl) ?_
    refine AList.c 4 rfl rfl rfl (OpJ.assign rfl rfl) ?_
    refine AList.c 5 rfl rfl rfl (OpJ.assign rfl rfl) ?_
    refine AList.c 6 rfl rfl rfl (OpJ.assign rfl rfl) ?_
    refine AList.nil ?_
    refine AWp.ret ?_
    refine Fin.manyE (xs := [.int .i64 0, .int .i64 0, .int .i64 (chkE l [lots, 0])]) rfl (⟨_, _, rfl, rfl, ⟨_, _, rfl, rfl, ⟨_, _, rfl, rfl, rfl⟩⟩⟩) rfl ?_
    rw [chk20] at hE ⊢
    have e : cmE l lots = chkE l [lots] := by unfold cmE; rw [if_pos hE]
    unfold cmA cmL; rw [e, if_neg hE, if_neg hE]; rfl
  · skip
    have hE : chkE l [lots, 0] = 0 := by simpa using hc0
    have hC := (chk_ok hE).1
    have hS := (chk_ok hE).2
    have h24 := crd24 hC
    have hp24 := pw24 h24
    have hS1 := hS lots (by simp)
    obtain ⟨lots, rfl⟩ : ∃ m : Nat, lots = (m : Int) := ⟨lots.toNat, by omega⟩
    have hlt : lots < 2 ^ l.length := by unfold pw at hS1; omega
    have hol := blame_lt l lots 0
    have hp24n := Nat.pow_le_pow_right (show 0 < 2 by omega) h24
    rw [chk20] at hE
    refine AWp.skip ?_
    refine AWp.seq ?_
    refine AWp.region ?_
    refine AList.c 20 rfl rfl rfl (OpJ.move rfl rfl) ?_
    refine AList.c 21 rfl rfl rfl (OpJ.move rfl rfl) ?_
    refine AList.c 22 rfl rfl rfl (OpJ.callP (rblame_ok l lots 0 hC hlt (Nat.two_pow_pos _)) rfl rfl rfl rfl rf38) ?_
    refine AList.c 8 rfl rfl rfl (OpJ.assign rfl rfl) ?_
    refine AList.nil ?_
    refine AWp.seq ?_
    refine AWp.seq ?_
    refine AWp.region ?_
    refine AList.c 23 rfl rfl rfl (OpJ.move rfl rfl) ?_
    refine AList.c 24 rfl rfl rfl (OpJ.eql rfl rfl rfl) ?_
    refine AList.c 25 rfl rfl rfl (OpJ.move rfl rfl) ?_
    refine AList.g 26 25 rfl rfl rfl rfl rfl rfl rfl [(8, _)] (fun h => And.intro (.inl rfl) (trivial)) (fun h => (OpJ.move rfl rfl)) ?_
    refine AList.g 27 25 rfl rfl rfl rfl rfl rfl rfl [(26, _)] (fun h => And.intro (.inr ⟨_, rfl, h⟩) (trivial)) (fun h => (OpJ.eql rfl rfl rfl)) ?_
    refine AList.c 28 rfl rfl rfl (OpJ.or_ rfl rfl rfl ?_) ?_
    · first | (intro h; rw [h]; rfl) | (intro h; simp_all)
    refine AList.nil ?_
    refine AWp.cond _ rfl (fun hc1 => ?_) (fun hc1 => ?_)
    · skip
      have hz : (lots : Int) = 0 ∨ blameN l lots 0 = 0 := by have h : (decide ((lots : Int) = 0) || decide (((blameN l lots 0 : Nat) : Int) = 0)) = true := hc1; simp only [Bool.or_eq_true, decide_eq_true_eq] at h; omega
      refine AWp.seq ?_
      refine AWp.region ?_
      refine AList.c 4 rfl rfl rfl (OpJ.assign rfl rfl) ?_
      refine AList.c 5 rfl rfl rfl (OpJ.assign rfl rfl) ?_
      refine AList.c 6 rfl rfl rfl (OpJ.assign rfl rfl) ?_
      refine AList.nil ?_
      refine AWp.ret ?_
      refine Fin.manyE (xs := [.int .i64 0, .int .i64 0, .int .i64 4]) rfl (⟨_, _, rfl, rfl, ⟨_, _, rfl, rfl, ⟨_, _, rfl, rfl, rfl⟩⟩⟩) rfl ?_
      have e : cmE l (lots : Int) = 4 := by unfold cmE; rw [if_neg (not_not_intro hE), if_pos (show ((lots : Int) = 0 ∨ blameN l (lots : Int).toNat 0 = 0) from hz)]
      unfold cmA cmL; rw [e, if_neg (by decide), if_neg (by decide)]; rfl
    · skip
      have hz : ¬ ((lots : Int) = 0 ∨ blameN l lots 0 = 0) := by obtain ⟨h1, h2⟩ := Bool.or_eq_false_iff.1 hc1; have h3 := of_decide_eq_false h1; have h4 := of_decide_eq_false h2; omega
      have hcm : cmE l (lots : Int) = 0 := by unfold cmE; rw [if_neg (not_not_intro hE), if_neg (show ¬ ((lots : Int) = 0 ∨ blameN l (lots : Int).toNat 0 = 0) from hz)]
      refine AWp.skip ?_
      refine AWp.seq ?_
      refine AWp.region ?_
      refine AList.c 29 rfl rfl rfl (OpJ.move rfl rfl) ?_
      refine AList.c 30 rfl rfl rfl (OpJ.callP (rall_ok l hC) rfl rfl rfl rfl rf29) ?_
      refine AList.c 9 rfl rfl rfl (OpJ.assign rfl rfl) ?_
      refine AList.c 10 rfl rfl rfl (OpJ.assign rfl rfl) ?_
      refine AList.nil ?_
      refine AWp.seq ?_
      refine AWp.seq ?_
      refine AWp.region ?_
      refine AList.c 11 rfl rfl rfl (OpJ.assign rfl rfl) ?_
      refine AList.nil ?_
      refine AWp.block ?_
      refine AWp.loopKL [0, 4, 5, 6, 8, 9, 67, 68] (fun g => [(11, .p (.int .i64 ((g : Nat) : Int))), (10, .p (.int .i64 ((setOf (laG l (blameN l lots 0)) g : Nat) : Int)))]) (fun g => g ≤ l.length) (fun g => l.length - g) 0 (Nat.zero_le _) (Sub.cons rfl (Sub.cons rfl (Sub.nil))) (fun i hg => ?_)
      refine AWp.seq ?_
      refine AWp.seq ?_
      refine AWp.region ?_
      refine AList.c 31 rfl rfl rfl (OpJ.move rfl rfl) ?_
      refine AList.c 32 rfl rfl rfl (OpJ.move rfl rfl) ?_
      refine AList.c 33 rfl rfl rfl (OpJ.lenSlice rfl rfl sl22 rfl) ?_
      refine AList.c 34 rfl rfl rfl (OpJ.lss rfl rfl rfl) ?_
      refine AList.nil ?_
      refine AWp.cond _ rfl (fun hc2 => ?_) (fun hc2 => ?_)
      · skip
        have hk0 : i < l.length := by have h := of_decide_eq_true hc2; omega
        have hsl := setOf_lt (laG l (blameN l lots 0)) i
        have hpi := Nat.pow_le_pow_right (show 0 < 2 by omega) (show i ≤ 24 by omega)
        refine AWp.skip ?_
        refine AWp.seq ?_
        refine AWp.block ?_
        refine AWp.seq ?_
        refine AWp.region ?_
        refine AList.c 37 rfl rfl rfl (OpJ.move rfl rfl) ?_
        refine AList.c 38 rfl rfl rfl (OpJ.move rfl rfl) ?_
        refine AList.c 39 rfl rfl rfl (OpJ.callP (rhas_ok (blameN l lots 0) i (by omega) (by omega)) rfl rfl rfl rfl rf22) ?_
        refine AList.c 12 rfl rfl rfl (OpJ.assign rfl rfl) ?_
        refine AList.nil ?_
        refine AWp.seq ?_
        refine AWp.seq ?_
        refine AWp.region ?_
        refine AList.c 13 rfl rfl rfl (OpJ.assign rfl rfl) ?_
        refine AList.nil ?_
        refine AWp.block ?_
        refine AWp.loopKL [0, 4, 5, 6, 8, 9, 10, 11, 31, 32, 33, 34, 35, 36, 37, 38, 39, 62, 63, 64, 65, 66, 67, 68] (fun g => [(13, .p (.int .i64 ((g : Nat) : Int))), (12, .p (.bool (laF l (blameN l lots 0) i g)))]) (fun g => g ≤ l.length) (fun g => l.length - g) 0 (Nat.zero_le _) (Sub.cons rfl (Sub.cons (by rw [laF_0]; rfl) Sub.nil)) (fun k hh => ?_)
        refine AWp.seq ?_
        refine AWp.seq ?_
        refine AWp.region ?_
        refine AList.c 40 rfl rfl rfl (OpJ.move rfl rfl) ?_
        refine AList.c 41 rfl rfl rfl (OpJ.move rfl rfl) ?_
        refine AList.c 42 rfl rfl rfl (OpJ.lenSlice rfl rfl sl22 rfl) ?_
        refine AList.c 43 rfl rfl rfl (OpJ.lss rfl rfl rfl) ?_
        refine AList.nil ?_
        refine AWp.cond _ rfl (fun hc3 => ?_) (fun hc3 => ?_)
        · skip
          have hj0 : k < l.length := by have h := of_decide_eq_true hc3; omega
          have hjb : k < (backs l l.length).length := by rw [backs_len]; exact hj0
          have hne : decide ((k : Int) ≠ (i : Int)) = decide (k ≠ i) := decide_eq_decide.2 (by omega)
          have hbk := back_lt l k
          have hpk := Nat.pow_le_pow_right (show 0 < 2 by omega) (show k + 1 ≤ 24 by omega)
          refine AWp.skip ?_
          refine AWp.seq ?_
          refine AWp.block ?_
          refine AWp.seq ?_
          refine AWp.region ?_
          refine AList.c 46 rfl rfl rfl (OpJ.move rfl rfl) ?_
          refine AList.c 47 rfl rfl rfl (OpJ.move rfl rfl) ?_
          refine AList.c 48 rfl rfl rfl (OpJ.neq rfl rfl rfl) ?_
          refine AList.c 49 rfl rfl rfl (OpJ.move rfl rfl) ?_
          refine AList.g 50 49 rfl rfl rfl rfl rfl rfl rfl [(8, _)] (fun h => And.intro (.inl rfl) (trivial)) (fun h => (OpJ.move rfl rfl)) ?_
          refine AList.g 51 49 rfl rfl rfl rfl rfl rfl rfl [(13, _)] (fun h => And.intro (.inl rfl) (trivial)) (fun h => (OpJ.move rfl rfl)) ?_
          refine AList.g 52 49 rfl rfl rfl rfl rfl rfl rfl [(50, _), (51, _)] (fun h => And.intro (.inr ⟨_, rfl, h⟩) (And.intro (.inr ⟨_, rfl, h⟩) (trivial))) (fun h => (OpJ.callP (rhas_ok (blameN l lots 0) k (by omega) (by omega)) rfl rfl rfl rfl rf22)) ?_
          refine AList.c 53 rfl rfl rfl (OpJ.and_ rfl rfl rfl ?_) ?_
          · first | (intro h; rw [h]; rfl) | (intro h; simp_all)
          refine AList.c 54 rfl rfl rfl (OpJ.move rfl rfl) ?_
          refine AList.g 55 54 rfl rfl rfl rfl rfl rfl rfl [(9, _)] (fun h => And.intro (.inl rfl) (trivial)) (fun h => (OpJ.move rfl rfl)) ?_
          refine AList.g 56 54 rfl rfl rfl rfl rfl rfl rfl [(13, _)] (fun h => And.intro (.inl rfl) (trivial)) (fun h => (OpJ.move rfl rfl)) ?_
          refine AList.g 57 54 rfl rfl rfl rfl rfl rfl rfl [(55, _), (56, _)] (fun h => And.intro (.inr ⟨_, rfl, h⟩) (And.intro (.inr ⟨_, rfl, h⟩) (trivial))) (fun h => (OpJ.indexG (g := backN l) bk_get rfl rfl rfl sl53 el53 rfl (fun _ => rfl) (by decide) hjb)) ?_
          refine AList.g 58 54 rfl rfl rfl rfl rfl rfl rfl [(57, _)] (fun h => And.intro (.inr ⟨_, rfl, h⟩) (trivial)) (fun h => (OpJ.load (v := .p (.int .i64 ((backN l k : Nat) : Int))) rfl rfl ty3 rfl)) ?_
          refine AList.g 59 54 rfl rfl rfl rfl rfl rfl rfl [(11, _)] (fun h => And.intro (.inl rfl) (trivial)) (fun h => (OpJ.move rfl rfl)) ?_
          refine AList.g 60 54 rfl rfl rfl rfl rfl rfl rfl [(58, _), (59, _)] (fun h => And.intro (.inr ⟨_, rfl, h⟩) (And.intro (.inr ⟨_, rfl, h⟩) (trivial))) (fun h => (OpJ.callP (rhas_ok (backN l k) i (by omega) (by omega)) rfl rfl rfl rfl rf22)) ?_
          refine AList.c 61 rfl rfl rfl (OpJ.and_ rfl rfl rfl ?_) ?_
          · first | (intro h; rw [h]; rfl) | (intro h; simp_all)
          refine AList.nil ?_
          refine AWp.cond _ rfl (fun hc4 => ?_) (fun hc4 => ?_)
          · skip
            have hx : laF l (blameN l lots 0) i (k + 1) = false := laF_F (laT_eq (c := true) hc4)
            refine AWp.region ?_
            refine AList.c 12 rfl rfl rfl (OpJ.assign rfl rfl) ?_
            refine AList.nil ?_
            refine AWp.region ?_
            refine AList.c 44 rfl rfl rfl (OpJ.move rfl rfl) ?_
            refine AList.c 45 rfl rfl rfl (OpJ.add rfl rfl rfl (i64ok ?_)) ?_
            · omega
            refine AList.c 13 rfl rfl rfl (OpJ.assign rfl rfl) ?_
            refine AList.nil ?_
            refine ⟨k + 1, ?_, ?_, ?_⟩
            · omega
            · omega
            refine To.done [] rfl (Sub.cons rfl (Sub.cons (by rw [hx]; rfl) (by repeat (first | exact Sub.nil | refine Sub.cons rfl ?_)))) rfl
          · skip
            have hx : laF l (blameN l lots 0) i (k + 1) = laF l (blameN l lots 0) i k := laF_T (laT_eq (c := false) hc4)
            refine AWp.skip ?_
            refine AWp.region ?_
            refine AList.c 44 rfl rfl rfl (OpJ.move rfl rfl) ?_
            refine AList.c 45 rfl rfl rfl (OpJ.add rfl rfl rfl (i64ok ?_)) ?_
            · omega
            refine AList.c 13 rfl rfl rfl (OpJ.assign rfl rfl) ?_
            refine AList.nil ?_
            refine ⟨k + 1, ?_, ?_, ?_⟩
            · omega
            · omega
            refine To.done [] rfl (Sub.cons rfl (Sub.cons (by rw [hx]; rfl) (by repeat (first | exact Sub.nil | refine Sub.cons rfl ?_)))) rfl
        · skip
          obtain rfl : k = l.length := by have h := of_decide_eq_false hc3; omega
          refine AWp.exit ?_
          refine AWp.seq ?_
          refine AWp.region ?_
          refine AList.c 62 rfl rfl rfl (OpJ.move rfl rfl) ?_
          refine AList.nil ?_
          refine AWp.cond _ rfl (fun hc5 => ?_) (fun hc5 => ?_)
          · skip
            have hs : setOf (laG l (blameN l lots 0)) (i + 1) = setOf (laG l (blameN l lots 0)) i + 2 ^ i := setOf_T (show laG l (blameN l lots 0) i = true from hc5)
            refine AWp.region ?_
            refine AList.c 63 rfl rfl rfl (OpJ.move rfl rfl) ?_
            refine AList.c 64 rfl rfl rfl (OpJ.move rfl rfl) ?_
            refine AList.c 65 rfl rfl rfl (OpJ.callP (power_ok i (by omega)) rfl rfl rfl rfl rf39) ?_
            refine AList.c 66 rfl rfl rfl (OpJ.add (m := ((setOf (laG l (blameN l lots 0)) i + 2 ^ i : Nat) : Int)) rfl rfl rfl ((i64ok ?_).trans ?_)) ?_
            · unfold pw; omega
            · unfold pw; omega
            refine AList.c 10 rfl rfl rfl (OpJ.assign rfl rfl) ?_
            refine AList.nil ?_
            refine AWp.region ?_
            refine AList.c 35 rfl rfl rfl (OpJ.move rfl rfl) ?_
            refine AList.c 36 rfl rfl rfl (OpJ.add rfl rfl rfl (i64ok ?_)) ?_
            · omega
            refine AList.c 11 rfl rfl rfl (OpJ.assign rfl rfl) ?_
            refine AList.nil ?_
            refine ⟨i + 1, ?_, ?_, ?_⟩
            · omega
            · omega
            refine To.done [] rfl (Sub.cons rfl (Sub.cons (by rw [hs]; rfl) (by repeat (first | exact Sub.nil | refine Sub.cons rfl ?_)))) rfl
          · skip
            have hs : setOf (laG l (blameN l lots 0)) (i + 1) = setOf (laG l (blameN l lots 0)) i := setOf_F (show laG l (blameN l lots 0) i = false from hc5)
            refine AWp.skip ?_
            refine AWp.region ?_
            refine AList.c 35 rfl rfl rfl (OpJ.move rfl rfl) ?_
            refine AList.c 36 rfl rfl rfl (OpJ.add rfl rfl rfl (i64ok ?_)) ?_
            · omega
            refine AList.c 11 rfl rfl rfl (OpJ.assign rfl rfl) ?_
            refine AList.nil ?_
            refine ⟨i + 1, ?_, ?_, ?_⟩
            · omega
            · omega
            refine To.done [] rfl (Sub.cons rfl (Sub.cons (by rw [hs]; rfl) (by repeat (first | exact Sub.nil | refine Sub.cons rfl ?_)))) rfl
      · skip
        obtain rfl : i = l.length := by have h := of_decide_eq_false hc2; omega
        rw [la_all h24 hol]
        refine AWp.exit ?_
        refine AWp.seq ?_
        refine AWp.region ?_
        refine AList.c 67 rfl rfl rfl (OpJ.move rfl rfl) ?_
        refine AList.c 68 rfl rfl rfl (OpJ.move rfl rfl) ?_
        refine AList.c 4 rfl rfl rfl (OpJ.assign rfl rfl) ?_
        refine AList.c 5 rfl rfl rfl (OpJ.assign rfl rfl) ?_
        refine AList.c 6 rfl rfl rfl (OpJ.assign rfl rfl) ?_
        refine AList.nil ?_
        refine AWp.ret ?_
        refine Fin.manyE (xs := [.int .i64 (((blameN l lots 0) : Nat) : Int), .int .i64 ((lastN l (blameN l lots 0) : Nat) : Int), .int .i64 0]) rfl (⟨_, _, rfl, rfl, ⟨_, _, rfl, rfl, ⟨_, _, rfl, rfl, rfl⟩⟩⟩) rfl ?_
        unfold cmA cmL; rw [hcm, if_pos rfl, if_pos rfl]; rfl
end Go.Proofs.YtlalikkkobpfgaaDoor
