/-
  The law RecallBoth.
-/
import Derived.Test.YtlalikkkobpfgaaDoorRc7
import Derived.Test.YtlalikkkobpfgaaDoorRcL
set_option linter.unusedVariables false
set_option maxRecDepth 100000
set_option maxHeartbeats 4000000
set_option linter.unusedSimpArgs false
namespace Go.Proofs.YtlalikkkobpfgaaDoor
open Go.AF
theorem Back_in (l : List Bat) (i : Nat) (hb : l.length ≤ bigN) (hC : crdOk l) (hi : i < l.length) : Pure Tryd.prog 11 [batV l, .int .i64 (i : Int)] (.tuple [.int .i64 ((backN l i : Nat) : Int), .int .i64 0]) := by
  have h := Back_ok l (i : Int) hb
  have e := fromE_in hC hi
  rw [e, (fromE_0 e).2.2.2] at h
  exact h
theorem Ahead_in (l : List Bat) (i : Nat) (hb : l.length ≤ bigN) (hC : crdOk l) (hi : i < l.length) : Pure Tryd.prog 13 [batV l, .int .i64 (i : Int)] (.tuple [.int .i64 ((aheadN l i : Nat) : Int), .int .i64 0]) := by
  have h := Ahead_ok l (i : Int) hb
  have e := fromE_in hC hi
  rw [e, (fromE_0 e).2.2.2] at h
  exact h
theorem recallBoth_main (l : List Bat) (b : Int) (o8 : Nat) (hb : l.length ≤ bigN) (ho8 : o8 ≤ 255) : Pure Tryd.prog 7 [batV l, .int .i64 b, .int .u8 (o8 : Int)] (.bool true) := by
  have hb2 := hb
  unfold bigN at hb2
  refine Pure.start (N := 180) Tryd.func7 rfl rfl (Nat.le_of_ble_eq_true rfl) ?_
  refine AWp.seq ?_
  refine AWp.region ?_
  refine AList.c 6 rfl rfl rfl (OpJ.assign rfl rfl) ?_
  refine AList.nil ?_
  refine AWp.seq ?_
  refine AWp.seq ?_
  refine AWp.region ?_
  refine AList.c 20 rfl rfl rfl (OpJ.move rfl rfl) ?_
  refine AList.c 21 rfl rfl rfl (OpJ.lenSlice rfl rfl sl22 rfl) ?_
  refine AList.c 22 rfl rfl rfl (OpJ.gtr rfl rfl rfl) ?_
  refine AList.nil ?_
  refine AWp.cond _ rfl (fun hc0 => ?_) (fun hc0 => ?_)
  · skip
    refine AWp.seq ?_
    refine AWp.region ?_
    refine AList.c 23 rfl rfl rfl (OpJ.callP (awake_ok) rfl rfl rfl rfl rf10) ?_
    refine AList.c 6 rfl rfl rfl (OpJ.assign rfl rfl) ?_
    refine AList.nil ?_
    refine AWp.ret ?_
    exact Fin.oneE rfl rfl rfl
  · skip
    refine AWp.skip ?_
    refine AWp.seq ?_
    refine AWp.region ?_
    refine AList.c 25 rfl rfl rfl (OpJ.move rfl rfl) ?_
    refine AList.c 26 rfl rfl rfl (OpJ.move rfl rfl) ?_
    refine AList.c 27 rfl rfl rfl (OpJ.callP (Back_ok l b hb) rfl rfl rfl rfl rf11) ?_
    refine AList.c 24 rfl rfl rfl (OpJ.move rfl rfl) ?_
    refine AList.c 28 rfl rfl rfl (OpJ.extract rfl rfl rfl) ?_
    refine AList.c 29 rfl rfl rfl (OpJ.extract rfl rfl rfl) ?_
    refine AList.c 7 rfl rfl rfl (OpJ.assign rfl rfl) ?_
    refine AList.c 8 rfl rfl rfl (OpJ.assign rfl rfl) ?_
    refine AList.nil ?_
    refine AWp.seq ?_
    refine AWp.region ?_
    refine AList.c 31 rfl rfl rfl (OpJ.move rfl rfl) ?_
    refine AList.c 32 rfl rfl rfl (OpJ.move rfl rfl) ?_
    refine AList.c 33 rfl rfl rfl (OpJ.callP (Ahead_ok l b hb) rfl rfl rfl rfl rf13) ?_
    refine AList.c 30 rfl rfl rfl (OpJ.move rfl rfl) ?_
    refine AList.c 34 rfl rfl rfl (OpJ.extract rfl rfl rfl) ?_
    refine AList.c 35 rfl rfl rfl (OpJ.extract rfl rfl rfl) ?_
    refine AList.c 9 rfl rfl rfl (OpJ.assign rfl rfl) ?_
    refine AList.c 10 rfl rfl rfl (OpJ.assign rfl rfl) ?_
    refine AList.nil ?_
    refine AWp.seq ?_
    refine AWp.seq ?_
    refine AWp.region ?_
    refine AList.c 36 rfl rfl rfl (OpJ.move rfl rfl) ?_
    refine AList.c 37 rfl rfl rfl (OpJ.neq rfl rfl rfl) ?_
    refine AList.nil ?_
    refine AWp.cond _ rfl (fun hc1 => ?_) (fun hc1 => ?_)
    · skip
      have hE : fromE l b ≠ 0 := by simpa using hc1
      refine AWp.seq ?_
      refine AWp.region ?_
      refine AList.c 38 rfl rfl rfl (OpJ.move rfl rfl) ?_
      refine AList.c 39 rfl rfl rfl (OpJ.eql rfl rfl rfl) ?_
      refine AList.c 40 rfl rfl rfl (OpJ.move rfl rfl) ?_
      refine AList.g 41 40 rfl rfl rfl rfl rfl rfl rfl [(9, _)] (fun h => And.intro (.inl rfl) (trivial)) (fun h => (OpJ.move rfl rfl)) ?_
      refine AList.g 42 40 rfl rfl rfl rfl rfl rfl rfl [(41, _)] (fun h => And.intro (.inr ⟨_, rfl, h⟩) (trivial)) (fun h => (OpJ.eql rfl rfl rfl)) ?_
      refine AList.c 43 rfl rfl rfl (OpJ.and_ rfl rfl rfl ?_) ?_
      · first | (intro h; rw [h]; rfl) | (intro h; simp_all)
      refine AList.c 44 rfl rfl rfl (OpJ.move rfl rfl) ?_
      refine AList.g 45 44 rfl rfl rfl rfl rfl rfl rfl [(10, _)] (fun h => And.intro (.inl rfl) (trivial)) (fun h => (OpJ.move rfl rfl)) ?_
      refine AList.g 46 44 rfl rfl rfl rfl rfl rfl rfl [(8, _)] (fun h => And.intro (.inl rfl) (trivial)) (fun h => (OpJ.move rfl rfl)) ?_
      refine AList.g 47 44 rfl rfl rfl rfl rfl rfl rfl [(45, _), (46, _)] (fun h => And.intro (.inr ⟨_, rfl, h⟩) (And.intro (.inr ⟨_, rfl, h⟩) (trivial))) (fun h => (OpJ.eql rfl rfl rfl)) ?_
      refine AList.c 48 rfl rfl rfl (OpJ.and_ rfl rfl rfl ?_) ?_
      · first | (intro h; rw [h]; rfl) | (intro h; simp_all)
      refine AList.c 49 rfl rfl rfl (OpJ.move rfl rfl) ?_
      refine AList.g 50 49 rfl rfl rfl rfl rfl rfl rfl [(8, _)] (fun h => And.intro (.inl rfl) (trivial)) (fun h => (OpJ.move rfl rfl)) ?_
      refine AList.g 51 49 rfl rfl rfl rfl rfl rfl rfl [(50, _)] (fun h => And.intro (.inr ⟨_, rfl, h⟩) (trivial)) (fun h => (OpJ.eql rfl rfl rfl)) ?_
      refine AList.g 52 49 rfl rfl rfl rfl rfl rfl rfl [(0, _)] (fun h => And.intro (.inl rfl) (trivial)) (fun h => (OpJ.move rfl rfl)) ?_
      refine AList.g 53 49 rfl rfl rfl rfl rfl rfl rfl [(52, _)] (fun h => And.intro (.inr ⟨_, rfl, h⟩) (trivial)) (fun h => (OpJ.callP (rcards_ok l hb) rfl rfl rfl rfl rf21)) ?_
      refine AList.g 54 49 rfl rfl rfl rfl rfl rfl rfl [(53, _)] (fun h => And.intro (.inr ⟨_, rfl, h⟩) (trivial)) (fun h => (OpJ.not_ rfl rfl)) ?_
      refine AList.g 55 49 rfl rfl rfl rfl rfl rfl rfl [(51, _), (54, _)] (fun h => And.intro (.inr ⟨_, rfl, h⟩) (And.intro (.inr ⟨_, rfl, h⟩) (trivial))) (fun h => (OpJ.eqBool rfl rfl rfl un4)) ?_
      refine AList.c 56 rfl rfl rfl (OpJ.and_ rfl rfl rfl ?_) ?_
      · first | (intro h; rw [h]; rfl) | (intro h; simp_all)
      refine AList.c 57 rfl rfl rfl (OpJ.move rfl rfl) ?_
      refine AList.g 58 57 rfl rfl rfl rfl rfl rfl rfl [] (fun h => trivial) (fun h => (OpJ.callP (awake_ok) rfl rfl rfl rfl rf10)) ?_
      refine AList.c 59 rfl rfl rfl (OpJ.and_ rfl rfl rfl ?_) ?_
      · first | (intro h; rw [h]; rfl) | (intro h; simp_all)
      refine AList.c 6 rfl rfl rfl (OpJ.assign rfl rfl) ?_
      refine AList.nil ?_
      refine AWp.ret ?_
      refine Fin.oneE rfl rfl ?_
      simp [hE, fromE_n hE]
    · skip
      have hE : fromE l b = 0 := by simpa using hc1
      obtain ⟨hC, h0b, hbl, hRN⟩ := fromE_0 hE
      have h24 := crd24 hC
      rw [hRN, hRN, hE]
      obtain ⟨b, rfl⟩ : ∃ m : Nat, b = (m : Int) := ⟨b.toNat, by omega⟩
      have hbl : b < l.length := hbl
      rw [Int.toNat_natCast]
      have hfb := (hC b hbl).2.1
      have hpb2 := pw24 (n := b) (by omega)
      have hfr : (bt l b).f = ((frN l b : Nat) : Int) := by unfold frN; omega
      have hfl : frN l b ≤ 16777216 := by unfold frN; omega
      have hn0 : 0 < l.length := by omega
      have ho := Nat.mod_lt o8 hn0
      have hp24 := Nat.pow_le_pow_right (show 0 < 2 by omega) h24
      have hq1 := (way_back hC).rlt b hbl
      have hq2 := (way_ahead hC).rlt b hbl
      have hq3 := (way_back hC).rlt (o8 % l.length) ho
      have hq4 := (way_ahead hC).rlt (o8 % l.length) ho
      have hpb := Nat.pow_le_pow_right (show 0 < 2 by omega) (show b + 1 ≤ 24 by omega)
      have hd1 := Nat.div_le_self (backN l b) (2 ^ (o8 % l.length))
      have hd2 := Nat.div_le_self (aheadN l (o8 % l.length)) (2 ^ b)
      have hd3 := Nat.div_le_self (aheadN l b) (2 ^ (o8 % l.length))
      have hd4 := Nat.div_le_self (backN l (o8 % l.length)) (2 ^ b)
      refine AWp.skip ?_
      refine AWp.seq ?_
      refine AWp.seq ?_
      refine AWp.region ?_
      refine AList.c 60 rfl rfl rfl (OpJ.move rfl rfl) ?_
      refine AList.c 61 rfl rfl rfl (OpJ.neq rfl rfl rfl) ?_
      refine AList.c 62 rfl rfl rfl (OpJ.move rfl rfl) ?_
      refine AList.g 63 62 rfl rfl rfl rfl rfl rfl rfl [(0, _)] (fun h => And.intro (.inl rfl) (trivial)) (fun h => (OpJ.move rfl rfl)) ?_
      refine AList.g 64 62 rfl rfl rfl rfl rfl rfl rfl [(63, _)] (fun h => And.intro (.inr ⟨_, rfl, h⟩) (trivial)) (fun h => (OpJ.callP (rcards_ok l hb) rfl rfl rfl rfl rf21)) ?_
      refine AList.g 65 62 rfl rfl rfl rfl rfl rfl rfl [(64, _)] (fun h => And.intro (.inr ⟨_, rfl, h⟩) (trivial)) (fun h => (OpJ.not_ rfl rfl)) ?_
      refine AList.c 66 rfl rfl rfl (OpJ.or_ rfl rfl rfl ?_) ?_
      · first | (intro h; rw [h]; rfl) | (intro h; simp_all)
      refine AList.c 67 rfl rfl rfl (OpJ.move rfl rfl) ?_
      refine AList.g 68 67 rfl rfl rfl rfl rfl rfl rfl [(1, _)] (fun h => And.intro (.inl rfl) (trivial)) (fun h => (OpJ.move rfl rfl)) ?_
      refine AList.g 69 67 rfl rfl rfl rfl rfl rfl rfl [(68, _)] (fun h => And.intro (.inr ⟨_, rfl, h⟩) (trivial)) (fun h => (OpJ.lss rfl rfl rfl)) ?_
      refine AList.c 70 rfl rfl rfl (OpJ.or_ rfl rfl rfl ?_) ?_
      · first | (intro h; rw [h]; rfl) | (intro h; simp_all)
      refine AList.c 71 rfl rfl rfl (OpJ.move rfl rfl) ?_
      refine AList.g 72 71 rfl rfl rfl rfl rfl rfl rfl [(1, _)] (fun h => And.intro (.inl rfl) (trivial)) (fun h => (OpJ.move rfl rfl)) ?_
      refine AList.g 73 71 rfl rfl rfl rfl rfl rfl rfl [(0, _)] (fun h => And.intro (.inl rfl) (trivial)) (fun h => (OpJ.move rfl rfl)) ?_
      refine AList.g 74 71 rfl rfl rfl rfl rfl rfl rfl [(73, _)] (fun h => And.intro (.inr ⟨_, rfl, h⟩) (trivial)) (fun h => (OpJ.lenSlice rfl rfl sl22 rfl)) ?_
      refine AList.g 75 71 rfl rfl rfl rfl rfl rfl rfl [(72, _), (74, _)] (fun h => And.intro (.inr ⟨_, rfl, h⟩) (And.intro (.inr ⟨_, rfl, h⟩) (trivial))) (fun h => (OpJ.geq rfl rfl rfl)) ?_
      refine AList.c 76 rfl rfl rfl (OpJ.or_ rfl rfl rfl ?_) ?_
      · first | (intro h; rw [h]; rfl) | (intro h; simp_all)
      refine AList.nil ?_
      refine AWp.cond _ rfl (fun hc2 => ?_) (fun hc2 => ?_)
      · skip
        exfalso
        simp [hC] at hc2
        omega
      · skip
        refine AWp.skip ?_
        refine AWp.seq ?_
        refine AWp.region ?_
        refine AList.c 77 rfl rfl rfl (OpJ.move rfl rfl) ?_
        refine AList.c 78 rfl rfl rfl (OpJ.convInt rfl rfl (by rw [un5]; rfl) un3 (i64ok ?_)) ?_
        · omega
        refine AList.c 79 rfl rfl rfl (OpJ.move rfl rfl) ?_
        refine AList.c 80 rfl rfl rfl (OpJ.lenSlice rfl rfl sl22 rfl) ?_
        refine AList.c 81 rfl rfl rfl (OpJ.rem rfl rfl rfl ?_ rfl) ?_
        · omega
        refine AList.c 11 rfl rfl rfl (OpJ.assign rfl rfl) ?_
        refine AList.nil ?_
        refine AWp.seq ?_
        refine AWp.region ?_
        refine AList.c 83 rfl rfl rfl (OpJ.move rfl rfl) ?_
        refine AList.c 84 rfl rfl rfl (OpJ.move rfl rfl) ?_
        refine AList.c 85 rfl rfl rfl (OpJ.callP (Back_in l (o8 % l.length) hb hC ho) rfl rfl rfl rfl rf11) ?_
        refine AList.c 82 rfl rfl rfl (OpJ.move rfl rfl) ?_
        refine AList.c 86 rfl rfl rfl (OpJ.extract rfl rfl rfl) ?_
        refine AList.c 87 rfl rfl rfl (OpJ.extract rfl rfl rfl) ?_
        refine AList.c 12 rfl rfl rfl (OpJ.assign rfl rfl) ?_
        refine AList.c 13 rfl rfl rfl (OpJ.assign rfl rfl) ?_
        refine AList.nil ?_
        refine AWp.seq ?_
        refine AWp.region ?_
        refine AList.c 89 rfl rfl rfl (OpJ.move rfl rfl) ?_
        refine AList.c 90 rfl rfl rfl (OpJ.move rfl rfl) ?_
        refine AList.c 91 rfl rfl rfl (OpJ.callP (Ahead_in l (o8 % l.length) hb hC ho) rfl rfl rfl rfl rf13) ?_
        refine AList.c 88 rfl rfl rfl (OpJ.move rfl rfl) ?_
        refine AList.c 92 rfl rfl rfl (OpJ.extract rfl rfl rfl) ?_
        refine AList.c 93 rfl rfl rfl (OpJ.extract rfl rfl rfl) ?_
        refine AList.c 14 rfl rfl rfl (OpJ.assign rfl rfl) ?_
        refine AList.c 15 rfl rfl rfl (OpJ.assign rfl rfl) ?_
        refine AList.nil ?_
        refine AWp.seq ?_
        refine AWp.seq ?_
        refine AWp.regionDraw 32 mixed (by kernel_rfl) (by decide) ?_
        refine AQuiet.cons 94 rfl rfl rfl (OpJ.move rfl rfl) ?_
        refine AQuiet.cons 95 rfl rfl rfl (OpJ.neq rfl rfl rfl) ?_
        refine AQuiet.cons 96 rfl rfl rfl (OpJ.move rfl rfl) ?_
        refine AQuiet.guard 97 96 rfl rfl rfl rfl rfl rfl rfl [(15, _)] (fun h => And.intro (.inl rfl) (trivial)) (fun h => (OpJ.move rfl rfl)) ?_
        refine AQuiet.guard 98 96 rfl rfl rfl rfl rfl rfl rfl [(97, _)] (fun h => And.intro (.inr ⟨_, rfl, h⟩) (trivial)) (fun h => (OpJ.neq rfl rfl rfl)) ?_
        refine AQuiet.cons 99 rfl rfl rfl (OpJ.or_ rfl rfl rfl ?_) ?_
        · first | (intro h; rw [h]; rfl) | (intro h; simp_all)
        refine AQuiet.cons 100 rfl rfl rfl (OpJ.move rfl rfl) ?_
        refine AQuiet.guard 101 100 rfl rfl rfl rfl rfl rfl rfl [(7, _)] (fun h => And.intro (.inl rfl) (trivial)) (fun h => (OpJ.move rfl rfl)) ?_
        refine AQuiet.guard 102 100 rfl rfl rfl rfl rfl rfl rfl [(11, _)] (fun h => And.intro (.inl rfl) (trivial)) (fun h => (OpJ.move rfl rfl)) ?_
        refine AQuiet.guard 103 100 rfl rfl rfl rfl rfl rfl rfl [(101, _), (102, _)] (fun h => And.intro (.inr ⟨_, rfl, h⟩) (And.intro (.inr ⟨_, rfl, h⟩) (trivial))) (fun h => (OpJ.shrN (backN l b) (o8 % l.length) rfl rfl rfl (by first | decide | (show _ ≤ (9223372036854775807 : Int); omega) | (show _ ≤ (4294967295 : Int); omega)))) ?_
        refine AQuiet.guard 104 100 rfl rfl rfl rfl rfl rfl rfl [(103, _)] (fun h => And.intro (.inr ⟨_, rfl, h⟩) (trivial)) (fun h => (OpJ.andN (backN l b / 2 ^ (o8 % l.length)) 1 rfl rfl rfl (by first | (show _ ≤ (9223372036854775807 : Int); omega) | (show _ ≤ (4294967295 : Int); omega)) (by first | decide | (show _ ≤ (9223372036854775807 : Int); omega) | (show _ ≤ (4294967295 : Int); omega)))) ?_
        refine AQuiet.guard 105 100 rfl rfl rfl rfl rfl rfl rfl [(104, _)] (fun h => And.intro (.inr ⟨_, rfl, h⟩) (trivial)) (fun h => (OpJ.eql rfl rfl rfl)) ?_
        refine AQuiet.guard 106 100 rfl rfl rfl rfl rfl rfl rfl [(14, _)] (fun h => And.intro (.inl rfl) (trivial)) (fun h => (OpJ.move rfl rfl)) ?_
        refine AQuiet.guard 107 100 rfl rfl rfl rfl rfl rfl rfl [(1, _)] (fun h => And.intro (.inl rfl) (trivial)) (fun h => (OpJ.move rfl rfl)) ?_
        refine AQuiet.guard 108 100 rfl rfl rfl rfl rfl rfl rfl [(106, _), (107, _)] (fun h => And.intro (.inr ⟨_, rfl, h⟩) (And.intro (.inr ⟨_, rfl, h⟩) (trivial))) (fun h => (OpJ.shrN (aheadN l (o8 % l.length)) b rfl rfl rfl (by first | decide | (show _ ≤ (9223372036854775807 : Int); omega) | (show _ ≤ (4294967295 : Int); omega)))) ?_
        refine AQuiet.guard 109 100 rfl rfl rfl rfl rfl rfl rfl [(108, _)] (fun h => And.intro (.inr ⟨_, rfl, h⟩) (trivial)) (fun h => (OpJ.andN (aheadN l (o8 % l.length) / 2 ^ b) 1 rfl rfl rfl (by first | (show _ ≤ (9223372036854775807 : Int); omega) | (show _ ≤ (4294967295 : Int); omega)) (by first | decide | (show _ ≤ (9223372036854775807 : Int); omega) | (show _ ≤ (4294967295 : Int); omega)))) ?_
        refine AQuiet.guard 110 100 rfl rfl rfl rfl rfl rfl rfl [(109, _)] (fun h => And.intro (.inr ⟨_, rfl, h⟩) (trivial)) (fun h => (OpJ.eql rfl rfl rfl)) ?_
        refine AQuiet.guard 111 100 rfl rfl rfl rfl rfl rfl rfl [(105, _), (110, _)] (fun h => And.intro (.inr ⟨_, rfl, h⟩) (And.intro (.inr ⟨_, rfl, h⟩) (trivial))) (fun h => (OpJ.neqBool rfl rfl rfl un4)) ?_
        refine AQuiet.cons 112 rfl rfl rfl (OpJ.or_ rfl rfl rfl ?_) ?_
        · first | (intro h; rw [h]; rfl) | (intro h; simp_all)
        refine AQuiet.cons 113 rfl rfl rfl (OpJ.move rfl rfl) ?_
        refine AQuiet.guard 114 113 rfl rfl rfl rfl rfl rfl rfl [(9, _)] (fun h => And.intro (.inl rfl) (trivial)) (fun h => (OpJ.move rfl rfl)) ?_
        refine AQuiet.guard 115 113 rfl rfl rfl rfl rfl rfl rfl [(11, _)] (fun h => And.intro (.inl rfl) (trivial)) (fun h => (OpJ.move rfl rfl)) ?_
        refine AQuiet.guard 116 113 rfl rfl rfl rfl rfl rfl rfl [(114, _), (115, _)] (fun h => And.intro (.inr ⟨_, rfl, h⟩) (And.intro (.inr ⟨_, rfl, h⟩) (trivial))) (fun h => (OpJ.shrN (aheadN l b) (o8 % l.length) rfl rfl rfl (by first | decide | (show _ ≤ (9223372036854775807 : Int); omega) | (show _ ≤ (4294967295 : Int); omega)))) ?_
        refine AQuiet.guard 117 113 rfl rfl rfl rfl rfl rfl rfl [(116, _)] (fun h => And.intro (.inr ⟨_, rfl, h⟩) (trivial)) (fun h => (OpJ.andN (aheadN l b / 2 ^ (o8 % l.length)) 1 rfl rfl rfl (by first | (show _ ≤ (9223372036854775807 : Int); omega) | (show _ ≤ (4294967295 : Int); omega)) (by first | decide | (show _ ≤ (9223372036854775807 : Int); omega) | (show _ ≤ (4294967295 : Int); omega)))) ?_
        refine AQuiet.guard 118 113 rfl rfl rfl rfl rfl rfl rfl [(117, _)] (fun h => And.intro (.inr ⟨_, rfl, h⟩) (trivial)) (fun h => (OpJ.eql rfl rfl rfl)) ?_
        refine AQuiet.guard 119 113 rfl rfl rfl rfl rfl rfl rfl [(12, _)] (fun h => And.intro (.inl rfl) (trivial)) (fun h => (OpJ.move rfl rfl)) ?_
        refine AQuiet.guard 120 113 rfl rfl rfl rfl rfl rfl rfl [(1, _)] (fun h => And.intro (.inl rfl) (trivial)) (fun h => (OpJ.move rfl rfl)) ?_
        refine AQuiet.guard 121 113 rfl rfl rfl rfl rfl rfl rfl [(119, _), (120, _)] (fun h => And.intro (.inr ⟨_, rfl, h⟩) (And.intro (.inr ⟨_, rfl, h⟩) (trivial))) (fun h => (OpJ.shrN (backN l (o8 % l.length)) b rfl rfl rfl (by first | decide | (show _ ≤ (9223372036854775807 : Int); omega) | (show _ ≤ (4294967295 : Int); omega)))) ?_
        refine AQuiet.guard 122 113 rfl rfl rfl rfl rfl rfl rfl [(121, _)] (fun h => And.intro (.inr ⟨_, rfl, h⟩) (trivial)) (fun h => (OpJ.andN (backN l (o8 % l.length) / 2 ^ b) 1 rfl rfl rfl (by first | (show _ ≤ (9223372036854775807 : Int); omega) | (show _ ≤ (4294967295 : Int); omega)) (by first | decide | (show _ ≤ (9223372036854775807 : Int); omega) | (show _ ≤ (4294967295 : Int); omega)))) ?_
        refine AQuiet.guard 123 113 rfl rfl rfl rfl rfl rfl rfl [(122, _)] (fun h => And.intro (.inr ⟨_, rfl, h⟩) (trivial)) (fun h => (OpJ.eql rfl rfl rfl)) ?_
        refine AQuiet.guard 124 113 rfl rfl rfl rfl rfl rfl rfl [(118, _), (123, _)] (fun h => And.intro (.inr ⟨_, rfl, h⟩) (And.intro (.inr ⟨_, rfl, h⟩) (trivial))) (fun h => (OpJ.neqBool rfl rfl rfl un4)) ?_
        refine AQuiet.cons 125 rfl rfl rfl (OpJ.or_ rfl rfl rfl ?_) ?_
        · first | (intro h; rw [h]; rfl) | (intro h; simp_all)
        refine AQuiet.nil ?_
        refine AList.nil ?_
        refine AWp.cond _ rfl (fun hc3 => ?_) (fun hc3 => ?_)
        · skip
          exfalso
          have e1 := both_1 (o := o8 % l.length) hbl
          have e2 := both_1 (o := b) ho
          simp only [bitE, e1, e2] at hc3
          simp at hc3
        · skip
          refine AWp.skip ?_
          refine AWp.seq ?_
          refine AWp.seq ?_
          refine AWp.region ?_
          refine AList.c 126 rfl rfl rfl (OpJ.move rfl rfl) ?_
          refine AList.c 127 rfl rfl rfl (OpJ.move rfl rfl) ?_
          refine AList.c 128 rfl rfl rfl (OpJ.shrN (aheadN l b) (o8 % l.length) rfl rfl rfl (by first | decide | (show _ ≤ (9223372036854775807 : Int); omega) | (show _ ≤ (4294967295 : Int); omega))) ?_
          refine AList.c 129 rfl rfl rfl (OpJ.andN (aheadN l b / 2 ^ (o8 % l.length)) 1 rfl rfl rfl (by first | (show _ ≤ (9223372036854775807 : Int); omega) | (show _ ≤ (4294967295 : Int); omega)) (by first | decide | (show _ ≤ (9223372036854775807 : Int); omega) | (show _ ≤ (4294967295 : Int); omega))) ?_
          refine AList.c 130 rfl rfl rfl (OpJ.eql rfl rfl rfl) ?_
          refine AList.c 131 rfl rfl rfl (OpJ.move rfl rfl) ?_
          refine AList.g 132 131 rfl rfl rfl rfl rfl rfl rfl [(7, _)] (fun h => And.intro (.inl rfl) (trivial)) (fun h => (OpJ.move rfl rfl)) ?_
          refine AList.g 133 131 rfl rfl rfl rfl rfl rfl rfl [(12, _)] (fun h => And.intro (.inl rfl) (trivial)) (fun h => (OpJ.move rfl rfl)) ?_
          refine AList.g 134 131 rfl rfl rfl rfl rfl rfl rfl [(132, _), (133, _)] (fun h => And.intro (.inr ⟨_, rfl, h⟩) (And.intro (.inr ⟨_, rfl, h⟩) (trivial))) (fun h => (OpJ.andNotN (backN l b) (backN l (o8 % l.length)) rfl rfl rfl (by first | (show _ ≤ (9223372036854775807 : Int); omega) | (show _ ≤ (4294967295 : Int); omega)))) ?_
          refine AList.g 135 131 rfl rfl rfl rfl rfl rfl rfl [(134, _)] (fun h => And.intro (.inr ⟨_, rfl, h⟩) (trivial)) (fun h => (OpJ.neq rfl rfl rfl)) ?_
          refine AList.g 136 131 rfl rfl rfl rfl rfl rfl rfl [(135, _)] (fun h => And.intro (.inr ⟨_, rfl, h⟩) (trivial)) (fun h => (OpJ.move rfl rfl)) ?_
          refine AList.g 137 136 rfl rfl rfl rfl rfl rfl rfl [(14, _)] (fun h => And.intro (.inl rfl) (trivial)) (fun h => (OpJ.move rfl rfl)) ?_
          refine AList.g 138 136 rfl rfl rfl rfl rfl rfl rfl [(9, _)] (fun h => And.intro (.inl rfl) (trivial)) (fun h => (OpJ.move rfl rfl)) ?_
          refine AList.g 139 136 rfl rfl rfl rfl rfl rfl rfl [(137, _), (138, _)] (fun h => And.intro (.inr ⟨_, rfl, h⟩) (And.intro (.inr ⟨_, rfl, h⟩) (trivial))) (fun h => (OpJ.andNotN (aheadN l (o8 % l.length)) (aheadN l b) rfl rfl rfl (by first | (show _ ≤ (9223372036854775807 : Int); omega) | (show _ ≤ (4294967295 : Int); omega)))) ?_
          refine AList.g 140 136 rfl rfl rfl rfl rfl rfl rfl [(139, _)] (fun h => And.intro (.inr ⟨_, rfl, h⟩) (trivial)) (fun h => (OpJ.neq rfl rfl rfl)) ?_
          refine AList.g 141 131 rfl rfl rfl rfl rfl rfl rfl [(136, _), (140, _)] (fun h => And.intro (.inr ⟨_, rfl, h⟩) (And.intro (.inl rfl) (trivial))) (fun h => (OpJ.or_ rfl rfl rfl ?_)) ?_
          · first | (intro h; rw [h]; rfl) | (intro h; simp_all)
          refine AList.c 142 rfl rfl rfl (OpJ.and_ rfl rfl rfl ?_) ?_
          · first | (intro h; rw [h]; rfl) | (intro h; simp_all)
          refine AList.nil ?_
          refine AWp.cond _ rfl (fun hc4 => ?_) (fun hc4 => ?_)
          · skip
            exfalso
            simp only [bitE, Bool.and_eq_true] at hc4
            obtain ⟨h1, h2⟩ := hc4
            obtain ⟨e1, e2⟩ := both_2 h1
            rw [e1, e2] at h2
            simp at h2
          · skip
            refine AWp.skip ?_
            refine AWp.seq ?_
            refine AWp.region ?_
            refine AList.c 143 rfl rfl rfl (OpJ.move rfl rfl) ?_
            refine AList.c 144 rfl rfl rfl (OpJ.shlN 1 b rfl rfl rfl (by show _ ≤ (64 : Nat); omega) (by show _ ≤ (9223372036854775807 : Int); rw [Nat.one_mul]; omega)) ?_
            refine AList.c 16 rfl rfl rfl (OpJ.assign rfl rfl) ?_
            refine AList.nil ?_
            refine AWp.seq ?_
            refine AWp.seq ?_
            rw [Nat.one_mul]
            refine AWp.region ?_
            refine AList.c 17 rfl rfl rfl (OpJ.assign rfl rfl) ?_
            refine AList.nil ?_
            refine AWp.block ?_
            refine AWp.loopKL [0, 1, 7, 168, 169, 170, 171, 172, 173, 174, 175, 176, 177, 178, 179] (fun g => [(17, .p (.int .i64 ((g : Nat) : Int))), (16, .p (.int .i64 ((stepB l (backs l b) b g : Nat) : Int)))]) (fun g => g ≤ b) (fun g => b - g) 0 (Nat.zero_le _) (Sub.cons rfl (Sub.cons rfl (Sub.nil))) (fun i hg => ?_)
            refine AWp.seq ?_
            refine AWp.seq ?_
            refine AWp.region ?_
            refine AList.c 145 rfl rfl rfl (OpJ.move rfl rfl) ?_
            refine AList.c 146 rfl rfl rfl (OpJ.move rfl rfl) ?_
            refine AList.c 147 rfl rfl rfl (OpJ.lss rfl rfl rfl) ?_
            refine AList.nil ?_
            refine AWp.cond _ rfl (fun hc5 => ?_) (fun hc5 => ?_)
            · skip
              have hk0 : i < b := by have h := of_decide_eq_true hc5; omega
              have hsl := stepB_lt l b i (by omega)
              have hbi := back_lt l i
              have hpi := Nat.pow_le_pow_right (show 0 < 2 by omega) (show i + 1 ≤ 24 by omega)
              have hor : stepB l (backs l b) b i ||| backN l i < 2 ^ 24 := Nat.or_lt_two_pow (by omega) (by omega)
              refine AWp.skip ?_
              refine AWp.seq ?_
              refine AWp.block ?_
              refine AWp.seq ?_
              refine AWp.region ?_
              refine AList.c 150 rfl rfl rfl (OpJ.move rfl rfl) ?_
              refine AList.c 151 rfl rfl rfl (OpJ.move rfl rfl) ?_
              refine AList.c 152 rfl rfl rfl (OpJ.indexG (g := bt l) bt_get rfl rfl rfl sl22 el22 rfl (fun _ => rfl) (by decide) hbl) ?_
              refine AList.c 153 rfl rfl rfl (OpJ.fieldAddr rfl rfl fd39_0 rfl) ?_
              refine AList.c 154 rfl rfl rfl (OpJ.load (v := .p (.int .i64 (bt l b).f)) rfl rfl ty3 rfl) ?_
              refine AList.c 155 rfl rfl rfl (OpJ.move rfl rfl) ?_
              rw [hfr]
              refine AList.c 156 rfl rfl rfl (OpJ.callP (rhas_ok (frN l b) i (by omega) (by omega)) rfl rfl rfl rfl rf22) ?_
              refine AList.nil ?_
              refine AWp.cond _ rfl (fun hc6 => ?_) (fun hc6 => ?_)
              · skip
                have hst : stepB l (backs l b) b (i + 1) = stepB l (backs l b) b i ||| backN l i := by rw [stepB, if_pos hc6, backs_at l (by omega)]
                refine AWp.seq ?_
                refine AWp.region ?_
                refine AList.c 158 rfl rfl rfl (OpJ.move rfl rfl) ?_
                refine AList.c 159 rfl rfl rfl (OpJ.move rfl rfl) ?_
                refine AList.c 160 rfl rfl rfl (OpJ.callP (Back_in l i hb hC (by omega)) rfl rfl rfl rfl rf11) ?_
                refine AList.c 157 rfl rfl rfl (OpJ.move rfl rfl) ?_
                refine AList.c 161 rfl rfl rfl (OpJ.extract rfl rfl rfl) ?_
                refine AList.c 162 rfl rfl rfl (OpJ.extract rfl rfl rfl) ?_
                refine AList.c 18 rfl rfl rfl (OpJ.assign rfl rfl) ?_
                refine AList.c 19 rfl rfl rfl (OpJ.assign rfl rfl) ?_
                refine AList.nil ?_
                refine AWp.seq ?_
                refine AWp.seq ?_
                refine AWp.region ?_
                refine AList.c 163 rfl rfl rfl (OpJ.move rfl rfl) ?_
                refine AList.c 164 rfl rfl rfl (OpJ.neq rfl rfl rfl) ?_
                refine AList.nil ?_
                refine AWp.cond _ rfl (fun hc7 => ?_) (fun hc7 => ?_)
                · skip
                  exfalso
                  simp at hc7
                · skip
                  refine AWp.skip ?_
                  refine AWp.region ?_
                  refine AList.c 165 rfl rfl rfl (OpJ.move rfl rfl) ?_
                  refine AList.c 166 rfl rfl rfl (OpJ.move rfl rfl) ?_
                  refine AList.c 167 rfl rfl rfl (OpJ.orN (stepB l (backs l b) b i) (backN l i) rfl rfl rfl (by show _ ≤ (9223372036854775807 : Int); omega) (by show _ ≤ (9223372036854775807 : Int); omega) (by show _ ≤ (9223372036854775807 : Int); omega)) ?_
                  refine AList.c 16 rfl rfl rfl (OpJ.assign rfl rfl) ?_
                  refine AList.nil ?_
                  refine AWp.region ?_
                  refine AList.c 148 rfl rfl rfl (OpJ.move rfl rfl) ?_
                  refine AList.c 149 rfl rfl rfl (OpJ.add rfl rfl rfl (i64ok ?_)) ?_
                  · omega
                  refine AList.c 17 rfl rfl rfl (OpJ.assign rfl rfl) ?_
                  refine AList.nil ?_
                  refine ⟨i + 1, ?_, ?_, ?_⟩
                  · omega
                  · omega
                  refine To.done [] rfl (Sub.cons rfl (Sub.cons (by rw [hst]; rfl) (by repeat (first | exact Sub.nil | refine Sub.cons rfl ?_)))) rfl
              · skip
                have hst : stepB l (backs l b) b (i + 1) = stepB l (backs l b) b i := by rw [stepB, if_neg (by rw [hc6]; decide)]
                refine AWp.skip ?_
                refine AWp.region ?_
                refine AList.c 148 rfl rfl rfl (OpJ.move rfl rfl) ?_
                refine AList.c 149 rfl rfl rfl (OpJ.add rfl rfl rfl (i64ok ?_)) ?_
                · omega
                refine AList.c 17 rfl rfl rfl (OpJ.assign rfl rfl) ?_
                refine AList.nil ?_
                refine ⟨i + 1, ?_, ?_, ?_⟩
                · omega
                · omega
                refine To.done [] rfl (Sub.cons rfl (Sub.cons (by rw [hst]; rfl) (by repeat (first | exact Sub.nil | refine Sub.cons rfl ?_)))) rfl
            · skip
              obtain rfl : b = i := by have h := of_decide_eq_false hc5; omega
              have hbs := backN_step l b
              have hbl2 := back_lt l b
              refine AWp.exit ?_
              refine AWp.seq ?_
              refine AWp.region ?_
              refine AList.c 168 rfl rfl rfl (OpJ.move rfl rfl) ?_
              refine AList.c 169 rfl rfl rfl (OpJ.move rfl rfl) ?_
              refine AList.c 170 rfl rfl rfl (OpJ.eql rfl rfl rfl) ?_
              refine AList.c 171 rfl rfl rfl (OpJ.move rfl rfl) ?_
              refine AList.g 172 171 rfl rfl rfl rfl rfl rfl rfl [(7, _)] (fun h => And.intro (.inl rfl) (trivial)) (fun h => (OpJ.move rfl rfl)) ?_
              refine AList.g 173 171 rfl rfl rfl rfl rfl rfl rfl [(1, _)] (fun h => And.intro (.inl rfl) (trivial)) (fun h => (OpJ.move rfl rfl)) ?_
              refine AList.g 174 171 rfl rfl rfl rfl rfl rfl rfl [(173, _)] (fun h => And.intro (.inr ⟨_, rfl, h⟩) (trivial)) (fun h => (OpJ.shlN 2 b rfl rfl rfl (by show _ ≤ (64 : Nat); omega) (by show _ ≤ (9223372036854775807 : Int); omega))) ?_
              refine AList.g 175 171 rfl rfl rfl rfl rfl rfl rfl [(172, _), (174, _)] (fun h => And.intro (.inr ⟨_, rfl, h⟩) (And.intro (.inr ⟨_, rfl, h⟩) (trivial))) (fun h => (OpJ.lss rfl rfl rfl)) ?_
              refine AList.c 176 rfl rfl rfl (OpJ.and_ rfl rfl rfl ?_) ?_
              · first | (intro h; rw [h]; rfl) | (intro h; simp_all)
              refine AList.c 177 rfl rfl rfl (OpJ.move rfl rfl) ?_
              refine AList.g 178 177 rfl rfl rfl rfl rfl rfl rfl [] (fun h => trivial) (fun h => (OpJ.callP (awake_ok) rfl rfl rfl rfl rf10)) ?_
              refine AList.c 179 rfl rfl rfl (OpJ.and_ rfl rfl rfl ?_) ?_
              · first | (intro h; rw [h]; rfl) | (intro h; simp_all)
              refine AList.c 6 rfl rfl rfl (OpJ.assign rfl rfl) ?_
              refine AList.nil ?_
              refine AWp.ret ?_
              refine Fin.oneE rfl rfl ?_
              have h2 : ((backN l b : Nat) : Int) < ((2 * 2 ^ b : Nat) : Int) := by rw [Nat.pow_succ] at hbl2; omega
              rw [← hbs, decide_eq_true h2]
              simp
theorem recallBoth_law {x0 x1 x2 : List PV} (h0 : TyL [.sl [.leaf (.int .i64), .leaf (.int .i64)]] x0) (h1 : TyL [.leaf (.int .i64)] x1) (h2 : TyL [.leaf (.int .u8)] x2) : Pure Tryd.prog 7 [argP false x0, argP false x1, argP false x2] (.bool true) := by
  obtain ⟨l, rfl, hl⟩ := bats_of h0
  obtain ⟨b, rfl⟩ := int_of h1
  obtain ⟨o, rfl, ho⟩ := u8_of h2
  exact recallBoth_main l b o hl ho
end Go.Proofs.YtlalikkkobpfgaaDoor
