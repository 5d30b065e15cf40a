/-
  The law RecallNoOther.
-/
import Derived.Test.YtlalikkkobpfgaaDoorRc9
import Derived.Test.YtlalikkkobpfgaaDoorRcU
set_option linter.unusedVariables false
set_option maxRecDepth 100000
set_option maxHeartbeats 4000000
set_option linter.unusedSimpArgs false
namespace Go.Proofs.YtlalikkkobpfgaaDoor
open Go.AF
theorem recallNoOther_main (l : List Bat) (bad good : Int) (hb : l.length ≤ bigN) : Pure Tryd.prog 6 [batV l, .int .i64 bad, .int .i64 good] (.bool true) := by
  have hb2 := hb
  unfold bigN at hb2
  refine Pure.start (N := 217) Tryd.func6 rfl rfl (Nat.le_of_ble_eq_true rfl) ?_
  refine AWp.seq ?_
  refine AWp.region ?_
  refine AList.c 6 rfl rfl rfl (OpJ.assign rfl rfl) ?_
  refine AList.nil ?_
  refine AWp.seq ?_
  refine AWp.seq ?_
  refine AWp.region ?_
  refine AList.c 21 rfl rfl rfl (OpJ.move rfl rfl) ?_
  refine AList.c 22 rfl rfl rfl (OpJ.lenSlice rfl rfl sl22 rfl) ?_
  refine AList.c 23 rfl rfl rfl (OpJ.gtr rfl rfl rfl) ?_
  refine AList.nil ?_
  refine AWp.cond _ rfl (fun hc0 => ?_) (fun hc0 => ?_)
  · skip
    refine AWp.seq ?_
    refine AWp.region ?_
    refine AList.c 24 rfl rfl rfl (OpJ.callP (awake_ok) rfl rfl rfl rfl rf10) ?_
    refine AList.c 6 rfl rfl rfl (OpJ.assign rfl rfl) ?_
    refine AList.nil ?_
    refine AWp.ret ?_
    exact Fin.oneE rfl rfl rfl
  · skip
    refine AWp.skip ?_
    refine AWp.seq ?_
    refine AWp.region ?_
    refine AList.c 26 rfl rfl rfl (OpJ.move rfl rfl) ?_
    refine AList.c 27 rfl rfl rfl (OpJ.move rfl rfl) ?_
    refine AList.c 28 rfl rfl rfl (OpJ.move rfl rfl) ?_
    refine AList.c 29 rfl rfl rfl (OpJ.callP (Blame_ok l bad good hb) rfl rfl rfl rfl rf17) ?_
    refine AList.c 25 rfl rfl rfl (OpJ.move rfl rfl) ?_
    refine AList.c 30 rfl rfl rfl (OpJ.extract rfl rfl rfl) ?_
    refine AList.c 31 rfl rfl rfl (OpJ.extract rfl rfl rfl) ?_
    refine AList.c 7 rfl rfl rfl (OpJ.assign rfl rfl) ?_
    refine AList.c 8 rfl rfl rfl (OpJ.assign rfl rfl) ?_
    refine AList.nil ?_
    refine AWp.seq ?_
    refine AWp.region ?_
    refine AList.c 33 rfl rfl rfl (OpJ.move rfl rfl) ?_
    refine AList.c 34 rfl rfl rfl (OpJ.move rfl rfl) ?_
    refine AList.c 35 rfl rfl rfl (OpJ.move rfl rfl) ?_
    refine AList.c 36 rfl rfl rfl (OpJ.callP (Recall_ok l bad good hb) rfl rfl rfl rfl rf19) ?_
    refine AList.c 32 rfl rfl rfl (OpJ.move rfl rfl) ?_
    refine AList.c 37 rfl rfl rfl (OpJ.extract rfl rfl rfl) ?_
    refine AList.c 38 rfl rfl rfl (OpJ.extract rfl rfl rfl) ?_
    refine AList.c 39 rfl rfl rfl (OpJ.extract rfl rfl rfl) ?_
    refine AList.c 10 rfl rfl rfl (OpJ.allocOwn rfl zr32 rfl) ?_
    refine AList.c 9 rfl rfl rfl (OpJ.assign rfl rfl) ?_
    refine AList.c0 rfl rfl (OpJ.store rfl rfl rfl rfl rfl ty32 rfl rfl) ?_
    refine AList.c 11 rfl rfl rfl (OpJ.assign rfl rfl) ?_
    refine AList.nil ?_
    refine AWp.seq ?_
    refine AWp.seq ?_
    refine AWp.region ?_
    refine AList.c 40 rfl rfl rfl (OpJ.move rfl rfl) ?_
    refine AList.c 41 rfl rfl rfl (OpJ.neq rfl rfl rfl) ?_
    refine AList.c 42 rfl rfl rfl (OpJ.move rfl rfl) ?_
    refine AList.g 43 42 rfl rfl rfl rfl rfl rfl rfl [(8, _)] (fun h => And.intro (.inl rfl) (trivial)) (fun h => (OpJ.move rfl rfl)) ?_
    refine AList.g 44 42 rfl rfl rfl rfl rfl rfl rfl [(43, _)] (fun h => And.intro (.inr ⟨_, rfl, h⟩) (trivial)) (fun h => (OpJ.neq rfl rfl rfl)) ?_
    refine AList.c 45 rfl rfl rfl (OpJ.and_ rfl rfl rfl ?_) ?_
    · first | (intro h; rw [h]; rfl) | (intro h; simp_all)
    refine AList.nil ?_
    refine AWp.cond _ rfl (fun hc1 => ?_) (fun hc1 => ?_)
    · skip
      have hE : blE l bad good ≠ 0 ∧ blE l bad good ≠ 6 := by simpa using hc1
      have hno := blE_no hE.1 hE.2
      refine AWp.seq ?_
      refine AWp.region ?_
      refine AList.c 46 rfl rfl rfl (OpJ.move rfl rfl) ?_
      refine AList.c 47 rfl rfl rfl (OpJ.eql rfl rfl rfl) ?_
      refine AList.c 48 rfl rfl rfl (OpJ.move rfl rfl) ?_
      refine AList.g 49 48 rfl rfl rfl rfl rfl rfl rfl [(9, _)] (fun h => And.intro (.inl rfl) (trivial)) (fun h => (OpJ.move rfl rfl)) ?_
      refine AList.g 50 48 rfl rfl rfl rfl rfl rfl rfl [(49, _)] (fun h => And.intro (.inr ⟨_, rfl, h⟩) (trivial)) (fun h => (OpJ.eql rfl rfl rfl)) ?_
      refine AList.c 51 rfl rfl rfl (OpJ.and_ rfl rfl rfl ?_) ?_
      · first | (intro h; rw [h]; rfl) | (intro h; simp_all)
      refine AList.c 52 rfl rfl rfl (OpJ.move rfl rfl) ?_
      refine AList.g 53 52 rfl rfl rfl rfl rfl rfl rfl [(10, _)] (fun h => And.intro (.inl rfl) (trivial)) (fun h => (OpJ.load (v := .p (.agg [.int .i64 (recS l bad good).1, .int .i64 (recS l bad good).2])) rfl rfl ty32 rfl)) ?_
      refine AList.g 54 52 rfl rfl rfl rfl rfl rfl rfl [] (fun h => trivial) (fun h => (OpJ.build rfl bd32 rfl rfl)) ?_
      refine AList.g 55 52 rfl rfl rfl rfl rfl rfl rfl [(53, _), (54, _)] (fun h => And.intro (.inr ⟨_, rfl, h⟩) (And.intro (.inr ⟨_, rfl, h⟩) (trivial))) (fun h => (OpJ.eqAgg (d := 8) rfl (.inl rfl) rfl rfl (by decide) eq32 ty32 rfl eg32 rfl)) ?_
      refine AList.c 56 rfl rfl rfl (OpJ.and_ rfl rfl rfl ?_) ?_
      · first | (intro h; rw [h]; rfl) | (intro h; simp_all)
      refine AList.c 57 rfl rfl rfl (OpJ.move rfl rfl) ?_
      refine AList.g 58 57 rfl rfl rfl rfl rfl rfl rfl [(11, _)] (fun h => And.intro (.inl rfl) (trivial)) (fun h => (OpJ.move rfl rfl)) ?_
      refine AList.g 59 57 rfl rfl rfl rfl rfl rfl rfl [(8, _)] (fun h => And.intro (.inl rfl) (trivial)) (fun h => (OpJ.move rfl rfl)) ?_
      refine AList.g 60 57 rfl rfl rfl rfl rfl rfl rfl [(58, _), (59, _)] (fun h => And.intro (.inr ⟨_, rfl, h⟩) (And.intro (.inr ⟨_, rfl, h⟩) (trivial))) (fun h => (OpJ.eql rfl rfl rfl)) ?_
      refine AList.c 61 rfl rfl rfl (OpJ.and_ rfl rfl rfl ?_) ?_
      · first | (intro h; rw [h]; rfl) | (intro h; simp_all)
      refine AList.c 62 rfl rfl rfl (OpJ.move rfl rfl) ?_
      refine AList.g 63 62 rfl rfl rfl rfl rfl rfl rfl [(8, _)] (fun h => And.intro (.inl rfl) (trivial)) (fun h => (OpJ.move rfl rfl)) ?_
      refine AList.g 64 62 rfl rfl rfl rfl rfl rfl rfl [(63, _)] (fun h => And.intro (.inr ⟨_, rfl, h⟩) (trivial)) (fun h => (OpJ.eql rfl rfl rfl)) ?_
      refine AList.g 65 62 rfl rfl rfl rfl rfl rfl rfl [(0, _)] (fun h => And.intro (.inl rfl) (trivial)) (fun h => (OpJ.move rfl rfl)) ?_
      refine AList.g 66 62 rfl rfl rfl rfl rfl rfl rfl [(65, _)] (fun h => And.intro (.inr ⟨_, rfl, h⟩) (trivial)) (fun h => (OpJ.callP (rcards_ok l hb) rfl rfl rfl rfl rf21)) ?_
      refine AList.g 67 62 rfl rfl rfl rfl rfl rfl rfl [(66, _)] (fun h => And.intro (.inr ⟨_, rfl, h⟩) (trivial)) (fun h => (OpJ.not_ rfl rfl)) ?_
      refine AList.g 68 62 rfl rfl rfl rfl rfl rfl rfl [(64, _), (67, _)] (fun h => And.intro (.inr ⟨_, rfl, h⟩) (And.intro (.inr ⟨_, rfl, h⟩) (trivial))) (fun h => (OpJ.eqBool rfl rfl rfl un4)) ?_
      refine AList.c 69 rfl rfl rfl (OpJ.and_ rfl rfl rfl ?_) ?_
      · first | (intro h; rw [h]; rfl) | (intro h; simp_all)
      refine AList.c 70 rfl rfl rfl (OpJ.move rfl rfl) ?_
      refine AList.g 71 70 rfl rfl rfl rfl rfl rfl rfl [] (fun h => trivial) (fun h => (OpJ.callP (awake_ok) rfl rfl rfl rfl rf10)) ?_
      refine AList.c 72 rfl rfl rfl (OpJ.and_ rfl rfl rfl ?_) ?_
      · first | (intro h; rw [h]; rfl) | (intro h; simp_all)
      refine AList.c 6 rfl rfl rfl (OpJ.assign rfl rfl) ?_
      refine AList.nil ?_
      refine AWp.ret ?_
      refine Fin.oneE rfl rfl ?_
      simp [blR, recN, recS, hE.1, hno]
    · skip
      have hE : blE l bad good = 0 ∨ blE l bad good = 6 := by by_cases h : blE l bad good = 0; { exact .inl h }; { refine .inr ?_; simp [h] at hc1; exact hc1 }
      obtain ⟨hC, hbd, hgd, hz, hR, hE6⟩ := blE_06 hE
      obtain ⟨hN, hS⟩ := rec_06 hE
      rw [hR] at hN hS
      rw [hR, hN, hS]
      obtain ⟨hb0, hb1⟩ := hbd
      obtain ⟨hg0, hg1⟩ := hgd
      obtain ⟨bad, rfl⟩ : ∃ m : Nat, bad = (m : Int) := ⟨bad.toNat, by omega⟩
      obtain ⟨good, rfl⟩ : ∃ m : Nat, good = (m : Int) := ⟨good.toNat, by omega⟩
      rw [Int.toNat_natCast, Int.toNat_natCast] at *
      have h24 := crd24 hC
      have hp24 := Nat.pow_le_pow_right (show 0 < 2 by omega) h24
      have hp1 := Nat.two_pow_pos l.length
      unfold pw at hb1 hg1
      have hbl : bad < 2 ^ l.length := by omega
      have hgl : good < 2 ^ l.length := by omega
      have hcl := blame_lt l bad good
      have hcal := call_lt h24 hcl
      refine AWp.skip ?_
      refine AWp.seq ?_
      refine AWp.seq ?_
      refine AWp.norm [0] [(0, _), (1, _), (2, _), (7, _), (8, _), (9, _), (10, _), (11, _)] [_] rfl (by repeat (first | exact Sub.nil | refine Sub.cons rfl ?_)) rfl ?_
      refine AWp.region ?_
      refine AList.c 73 rfl rfl rfl (OpJ.move rfl rfl) ?_
      refine AList.c 74 rfl rfl rfl (OpJ.callP (rcards_ok l hb) rfl rfl rfl rfl rf21) ?_
      refine AList.c 75 rfl rfl rfl (OpJ.not_ rfl rfl) ?_
      refine AList.c 76 rfl rfl rfl (OpJ.move rfl rfl) ?_
      refine AList.g 77 76 rfl rfl rfl rfl rfl rfl rfl [(1, _)] (fun h => And.intro (.inl rfl) (trivial)) (fun h => (OpJ.move rfl rfl)) ?_
      refine AList.g 78 76 rfl rfl rfl rfl rfl rfl rfl [(77, _)] (fun h => And.intro (.inr ⟨_, rfl, h⟩) (trivial)) (fun h => (OpJ.leq rfl rfl rfl)) ?_
      refine AList.c 79 rfl rfl rfl (OpJ.or_ rfl rfl rfl ?_) ?_
      · first | (intro h; rw [h]; rfl) | (intro h; simp_all)
      refine AList.c 80 rfl rfl rfl (OpJ.move rfl rfl) ?_
      refine AList.g 81 80 rfl rfl rfl rfl rfl rfl rfl [(1, _)] (fun h => And.intro (.inl rfl) (trivial)) (fun h => (OpJ.move rfl rfl)) ?_
      refine AList.g 82 80 rfl rfl rfl rfl rfl rfl rfl [(0, _)] (fun h => And.intro (.inl rfl) (trivial)) (fun h => (OpJ.move rfl rfl)) ?_
      refine AList.g 83 80 rfl rfl rfl rfl rfl rfl rfl [(82, _)] (fun h => And.intro (.inr ⟨_, rfl, h⟩) (trivial)) (fun h => (OpJ.lenSlice rfl rfl sl22 rfl)) ?_
      refine AList.g 84 80 rfl rfl rfl rfl rfl rfl rfl [(83, _)] (fun h => And.intro (.inr ⟨_, rfl, h⟩) (trivial)) (fun h => (OpJ.shlN 1 l.length rfl rfl rfl (by show _ ≤ (64 : Nat); omega) (by show _ ≤ (9223372036854775807 : Int); rw [Nat.one_mul]; omega))) ?_
      refine AList.g 85 80 rfl rfl rfl rfl rfl rfl rfl [(81, _), (84, _)] (fun h => And.intro (.inr ⟨_, rfl, h⟩) (And.intro (.inr ⟨_, rfl, h⟩) (trivial))) (fun h => (OpJ.geq rfl rfl rfl)) ?_
      refine AList.c 86 rfl rfl rfl (OpJ.or_ rfl rfl rfl ?_) ?_
      · first | (intro h; rw [h]; rfl) | (intro h; simp_all)
      refine AList.c 87 rfl rfl rfl (OpJ.move rfl rfl) ?_
      refine AList.g 88 87 rfl rfl rfl rfl rfl rfl rfl [(2, _)] (fun h => And.intro (.inl rfl) (trivial)) (fun h => (OpJ.move rfl rfl)) ?_
      refine AList.g 89 87 rfl rfl rfl rfl rfl rfl rfl [(88, _)] (fun h => And.intro (.inr ⟨_, rfl, h⟩) (trivial)) (fun h => (OpJ.lss rfl rfl rfl)) ?_
      refine AList.c 90 rfl rfl rfl (OpJ.or_ rfl rfl rfl ?_) ?_
      · first | (intro h; rw [h]; rfl) | (intro h; simp_all)
      refine AList.c 91 rfl rfl rfl (OpJ.move rfl rfl) ?_
      refine AList.g 92 91 rfl rfl rfl rfl rfl rfl rfl [(2, _)] (fun h => And.intro (.inl rfl) (trivial)) (fun h => (OpJ.move rfl rfl)) ?_
      refine AList.g 93 91 rfl rfl rfl rfl rfl rfl rfl [(0, _)] (fun h => And.intro (.inl rfl) (trivial)) (fun h => (OpJ.move rfl rfl)) ?_
      refine AList.g 94 91 rfl rfl rfl rfl rfl rfl rfl [(93, _)] (fun h => And.intro (.inr ⟨_, rfl, h⟩) (trivial)) (fun h => (OpJ.lenSlice rfl rfl sl22 rfl)) ?_
      refine AList.g 95 91 rfl rfl rfl rfl rfl rfl rfl [(94, _)] (fun h => And.intro (.inr ⟨_, rfl, h⟩) (trivial)) (fun h => (OpJ.shlN 1 l.length rfl rfl rfl (by show _ ≤ (64 : Nat); omega) (by show _ ≤ (9223372036854775807 : Int); rw [Nat.one_mul]; omega))) ?_
      refine AList.g 96 91 rfl rfl rfl rfl rfl rfl rfl [(92, _), (95, _)] (fun h => And.intro (.inr ⟨_, rfl, h⟩) (And.intro (.inr ⟨_, rfl, h⟩) (trivial))) (fun h => (OpJ.geq rfl rfl rfl)) ?_
      refine AList.c 97 rfl rfl rfl (OpJ.or_ rfl rfl rfl ?_) ?_
      · first | (intro h; rw [h]; rfl) | (intro h; simp_all)
      refine AList.c 98 rfl rfl rfl (OpJ.move rfl rfl) ?_
      refine AList.g 99 98 rfl rfl rfl rfl rfl rfl rfl [(7, _)] (fun h => And.intro (.inl rfl) (trivial)) (fun h => (OpJ.move rfl rfl)) ?_
      refine AList.g 100 98 rfl rfl rfl rfl rfl rfl rfl [(99, _)] (fun h => And.intro (.inr ⟨_, rfl, h⟩) (trivial)) (fun h => (OpJ.lss rfl rfl rfl)) ?_
      refine AList.c 101 rfl rfl rfl (OpJ.or_ rfl rfl rfl ?_) ?_
      · first | (intro h; rw [h]; rfl) | (intro h; simp_all)
      refine AList.c 102 rfl rfl rfl (OpJ.move rfl rfl) ?_
      refine AList.g 103 102 rfl rfl rfl rfl rfl rfl rfl [(7, _)] (fun h => And.intro (.inl rfl) (trivial)) (fun h => (OpJ.move rfl rfl)) ?_
      refine AList.g 104 102 rfl rfl rfl rfl rfl rfl rfl [(0, _)] (fun h => And.intro (.inl rfl) (trivial)) (fun h => (OpJ.move rfl rfl)) ?_
      refine AList.g 105 102 rfl rfl rfl rfl rfl rfl rfl [(104, _)] (fun h => And.intro (.inr ⟨_, rfl, h⟩) (trivial)) (fun h => (OpJ.lenSlice rfl rfl sl22 rfl)) ?_
      refine AList.g 106 102 rfl rfl rfl rfl rfl rfl rfl [(105, _)] (fun h => And.intro (.inr ⟨_, rfl, h⟩) (trivial)) (fun h => (OpJ.shlN 1 l.length rfl rfl rfl (by show _ ≤ (64 : Nat); omega) (by show _ ≤ (9223372036854775807 : Int); rw [Nat.one_mul]; omega))) ?_
      refine AList.g 107 102 rfl rfl rfl rfl rfl rfl rfl [(103, _), (106, _)] (fun h => And.intro (.inr ⟨_, rfl, h⟩) (And.intro (.inr ⟨_, rfl, h⟩) (trivial))) (fun h => (OpJ.geq rfl rfl rfl)) ?_
      refine AList.c 108 rfl rfl rfl (OpJ.or_ rfl rfl rfl ?_) ?_
      · first | (intro h; rw [h]; rfl) | (intro h; simp_all)
      refine AList.c 109 rfl rfl rfl (OpJ.move rfl rfl) ?_
      refine AList.g 110 109 rfl rfl rfl rfl rfl rfl rfl [(9, _)] (fun h => And.intro (.inl rfl) (trivial)) (fun h => (OpJ.move rfl rfl)) ?_
      refine AList.g 111 109 rfl rfl rfl rfl rfl rfl rfl [(110, _)] (fun h => And.intro (.inr ⟨_, rfl, h⟩) (trivial)) (fun h => (OpJ.lss rfl rfl rfl)) ?_
      refine AList.c 112 rfl rfl rfl (OpJ.or_ rfl rfl rfl ?_) ?_
      · first | (intro h; rw [h]; rfl) | (intro h; simp_all)
      refine AList.c 113 rfl rfl rfl (OpJ.move rfl rfl) ?_
      refine AList.g 114 113 rfl rfl rfl rfl rfl rfl rfl [(9, _)] (fun h => And.intro (.inl rfl) (trivial)) (fun h => (OpJ.move rfl rfl)) ?_
      refine AList.g 115 113 rfl rfl rfl rfl rfl rfl rfl [(0, _)] (fun h => And.intro (.inl rfl) (trivial)) (fun h => (OpJ.move rfl rfl)) ?_
      refine AList.g 116 113 rfl rfl rfl rfl rfl rfl rfl [(115, _)] (fun h => And.intro (.inr ⟨_, rfl, h⟩) (trivial)) (fun h => (OpJ.lenSlice rfl rfl sl22 rfl)) ?_
      refine AList.g 117 113 rfl rfl rfl rfl rfl rfl rfl [(116, _)] (fun h => And.intro (.inr ⟨_, rfl, h⟩) (trivial)) (fun h => (OpJ.shlN 1 l.length rfl rfl rfl (by show _ ≤ (64 : Nat); omega) (by show _ ≤ (9223372036854775807 : Int); rw [Nat.one_mul]; omega))) ?_
      refine AList.g 118 113 rfl rfl rfl rfl rfl rfl rfl [(114, _), (117, _)] (fun h => And.intro (.inr ⟨_, rfl, h⟩) (And.intro (.inr ⟨_, rfl, h⟩) (trivial))) (fun h => (OpJ.geq rfl rfl rfl)) ?_
      refine AList.c 119 rfl rfl rfl (OpJ.or_ rfl rfl rfl ?_) ?_
      · first | (intro h; rw [h]; rfl) | (intro h; simp_all)
      refine AList.c 120 rfl rfl rfl (OpJ.move rfl rfl) ?_
      refine AList.g 121 120 rfl rfl rfl rfl rfl rfl rfl [(7, _)] (fun h => And.intro (.inl rfl) (trivial)) (fun h => (OpJ.move rfl rfl)) ?_
      refine AList.g 122 120 rfl rfl rfl rfl rfl rfl rfl [(121, _)] (fun h => And.intro (.inr ⟨_, rfl, h⟩) (trivial)) (fun h => (OpJ.eql rfl rfl rfl)) ?_
      refine AList.g 123 120 rfl rfl rfl rfl rfl rfl rfl [(8, _)] (fun h => And.intro (.inl rfl) (trivial)) (fun h => (OpJ.move rfl rfl)) ?_
      refine AList.g 124 120 rfl rfl rfl rfl rfl rfl rfl [(123, _)] (fun h => And.intro (.inr ⟨_, rfl, h⟩) (trivial)) (fun h => (OpJ.eql rfl rfl rfl)) ?_
      refine AList.g 125 120 rfl rfl rfl rfl rfl rfl rfl [(122, _), (124, _)] (fun h => And.intro (.inr ⟨_, rfl, h⟩) (And.intro (.inr ⟨_, rfl, h⟩) (trivial))) (fun h => (OpJ.neqBool rfl rfl rfl un4)) ?_
      refine AList.c 126 rfl rfl rfl (OpJ.or_ rfl rfl rfl ?_) ?_
      · first | (intro h; rw [h]; rfl) | (intro h; simp_all)
      refine AList.c 127 rfl rfl rfl (OpJ.move rfl rfl) ?_
      refine AList.g 128 127 rfl rfl rfl rfl rfl rfl rfl [(11, _)] (fun h => And.intro (.inl rfl) (trivial)) (fun h => (OpJ.move rfl rfl)) ?_
      refine AList.g 129 127 rfl rfl rfl rfl rfl rfl rfl [(8, _)] (fun h => And.intro (.inl rfl) (trivial)) (fun h => (OpJ.move rfl rfl)) ?_
      refine AList.g 130 127 rfl rfl rfl rfl rfl rfl rfl [(128, _), (129, _)] (fun h => And.intro (.inr ⟨_, rfl, h⟩) (And.intro (.inr ⟨_, rfl, h⟩) (trivial))) (fun h => (OpJ.neq rfl rfl rfl)) ?_
      refine AList.c 131 rfl rfl rfl (OpJ.or_ rfl rfl rfl ?_) ?_
      · first | (intro h; rw [h]; rfl) | (intro h; simp_all)
      refine AList.nil ?_
      refine AWp.cond _ rfl (fun hc2 => ?_) (fun hc2 => ?_)
      · skip
        exfalso
        rw [hE6, decide_eq_true hC] at hc2
        simp only [bne_self_eq_false, beq_self_eq_true, decide_true] at hc2
        simp only [Bool.or_eq_true, Bool.and_eq_true, Bool.and_true, Bool.true_and, Bool.not_eq_true', decide_eq_true_eq, decide_eq_false_iff_not, Bool.not_true, Bool.not_false, Bool.false_eq_true, or_false, false_or, not_true_eq_false, Nat.one_mul] at hc2
        omega
      · skip
        refine AWp.skip ?_
        refine AWp.seq ?_
        have hex : ∀ i, i < l.length → (decide (((bad ^^^ (bad &&& aheadN l i) : Nat) : Int) = 0) && decide (((good &&& aheadN l i : Nat) : Int) = 0)) = (blameN l bad good).testBit i := fun i hi => expl_eq hbl hgl hi
        generalize blameN l bad good = can at hcl hcal hex ⊢
        refine AWp.norm [0] [(0, _), (1, _), (2, _), (7, _), (9, _), (10, _)] [_] rfl (by repeat (first | exact Sub.nil | refine Sub.cons rfl ?_)) rfl ?_
        refine AWp.region ?_
        refine AList.c 12 rfl rfl rfl (OpJ.assign rfl rfl) ?_
        refine AList.c 13 rfl rfl rfl (OpJ.assign rfl rfl) ?_
        refine AList.nil ?_
        refine AWp.seq ?_
        refine AWp.region ?_
        refine AList.c 14 rfl rfl rfl (OpJ.allocOwn rfl zr32 rfl) ?_
        refine AList.nil ?_
        refine AWp.seq ?_
        refine AWp.seq ?_
        refine AWp.region ?_
        refine AList.c 15 rfl rfl rfl (OpJ.assign rfl rfl) ?_
        refine AList.nil ?_
        refine AWp.block ?_
        refine AWp.loopHL [0, 1, 2, 7, 9, 10, 14, 206, 207, 208, 209, 210, 211, 212, 213, 214, 215, 216] (fun g => [(15, .p (.int .i64 ((g : Nat) : Int))), (12, .p (.int .i64 (((orL ((bitsN can g).map (ownN l))) : Nat) : Int))), (13, .p (.bool (bitsN can g).isEmpty))]) (fun g => [.cells [.p (.int .i64 (spanN l can).1), .p (.int .i64 (spanN l can).2)] 32, .cells [.p (.int .i64 (spF ((bitsN can g).map (cntN l))).1), .p (.int .i64 (spF ((bitsN can g).map (cntN l))).2)] 32]) (fun g => g ≤ l.length) (fun g => l.length - g) 0 (Nat.zero_le _) (To.sub (Sub.chk (Sub.cons rfl (Sub.cons rfl (Sub.cons rfl (Sub.nil)))))) (fun i hg => ?_)
        refine AWp.seq ?_
        refine AWp.seq ?_
        refine AWp.region ?_
        refine AList.c 132 rfl rfl rfl (OpJ.move rfl rfl) ?_
        refine AList.c 133 rfl rfl rfl (OpJ.move rfl rfl) ?_
        refine AList.c 134 rfl rfl rfl (OpJ.lenSlice rfl rfl sl22 rfl) ?_
        refine AList.c 135 rfl rfl rfl (OpJ.lss rfl rfl rfl) ?_
        refine AList.nil ?_
        refine AWp.cond _ rfl (fun hc3 => ?_) (fun hc3 => ?_)
        · skip
          have hk0 : i < l.length := by have h := of_decide_eq_true hc3; omega
          have hal := (way_ahead hC).rlt i hk0
          refine AWp.skip ?_
          refine AWp.seq ?_
          refine AWp.block ?_
          refine AWp.seq ?_
          refine AWp.region ?_
          refine AList.c 139 rfl rfl rfl (OpJ.move rfl rfl) ?_
          refine AList.c 140 rfl rfl rfl (OpJ.move rfl rfl) ?_
          refine AList.c 141 rfl rfl rfl (OpJ.callP (Ahead_in l i hb hC hk0) rfl rfl rfl rfl rf13) ?_
          refine AList.c 138 rfl rfl rfl (OpJ.move rfl rfl) ?_
          refine AList.c 142 rfl rfl rfl (OpJ.extract rfl rfl rfl) ?_
          refine AList.c 143 rfl rfl rfl (OpJ.extract rfl rfl rfl) ?_
          refine AList.c 16 rfl rfl rfl (OpJ.assign rfl rfl) ?_
          refine AList.c 17 rfl rfl rfl (OpJ.assign rfl rfl) ?_
          refine AList.nil ?_
          refine AWp.seq ?_
          refine AWp.seq ?_
          refine AWp.region ?_
          refine AList.c 144 rfl rfl rfl (OpJ.move rfl rfl) ?_
          refine AList.c 145 rfl rfl rfl (OpJ.neq rfl rfl rfl) ?_
          refine AList.nil ?_
          refine AWp.cond _ rfl (fun hc4 => ?_) (fun hc4 => ?_)
          · skip
            exfalso
            simp at hc4
          · skip
            refine AWp.skip ?_
            refine AWp.seq ?_
            refine AWp.region ?_
            refine AList.c 146 rfl rfl rfl (OpJ.move rfl rfl) ?_
            refine AList.c 147 rfl rfl rfl (OpJ.move rfl rfl) ?_
            refine AList.c 148 rfl rfl rfl (OpJ.andNotN bad (aheadN l i) rfl rfl rfl (by first | (show _ ≤ (9223372036854775807 : Int); omega) | (show _ ≤ (4294967295 : Int); omega))) ?_
            refine AList.c 149 rfl rfl rfl (OpJ.eql rfl rfl rfl) ?_
            refine AList.c 150 rfl rfl rfl (OpJ.move rfl rfl) ?_
            refine AList.g 151 150 rfl rfl rfl rfl rfl rfl rfl [(2, _)] (fun h => And.intro (.inl rfl) (trivial)) (fun h => (OpJ.move rfl rfl)) ?_
            refine AList.g 152 150 rfl rfl rfl rfl rfl rfl rfl [(16, _)] (fun h => And.intro (.inl rfl) (trivial)) (fun h => (OpJ.move rfl rfl)) ?_
            refine AList.g 153 150 rfl rfl rfl rfl rfl rfl rfl [(151, _), (152, _)] (fun h => And.intro (.inr ⟨_, rfl, h⟩) (And.intro (.inr ⟨_, rfl, h⟩) (trivial))) (fun h => (OpJ.andN good (aheadN l i) rfl rfl rfl (by first | (show _ ≤ (9223372036854775807 : Int); omega) | (show _ ≤ (4294967295 : Int); omega)) (by first | decide | (show _ ≤ (9223372036854775807 : Int); omega) | (show _ ≤ (4294967295 : Int); omega)))) ?_
            refine AList.g 154 150 rfl rfl rfl rfl rfl rfl rfl [(153, _)] (fun h => And.intro (.inr ⟨_, rfl, h⟩) (trivial)) (fun h => (OpJ.eql rfl rfl rfl)) ?_
            refine AList.c 155 rfl rfl rfl (OpJ.and_ rfl rfl rfl ?_) ?_
            · first | (intro h; rw [h]; rfl) | (intro h; simp_all)
            refine AList.c 18 rfl rfl rfl (OpJ.assign rfl rfl) ?_
            refine AList.nil ?_
            refine AWp.seq ?_
            refine AWp.seq ?_
            rw [hex i hk0]
            refine AWp.region ?_
            refine AList.c 156 rfl rfl rfl (OpJ.move rfl rfl) ?_
            refine AList.c 157 rfl rfl rfl (OpJ.move rfl rfl) ?_
            refine AList.c 158 rfl rfl rfl (OpJ.move rfl rfl) ?_
            refine AList.c 159 rfl rfl rfl (OpJ.callP (rhas_ok can i (by omega) (by omega)) rfl rfl rfl rfl rf22) ?_
            refine AList.c 160 rfl rfl rfl (OpJ.neqBool rfl rfl rfl un4) ?_
            refine AList.nil ?_
            refine AWp.cond _ rfl (fun hc5 => ?_) (fun hc5 => ?_)
            · skip
              exfalso
              simp at hc5
            · skip
              refine AWp.skip ?_
              refine AWp.seq ?_
              refine AWp.seq ?_
              refine AWp.region ?_
              refine AList.c 161 rfl rfl rfl (OpJ.move rfl rfl) ?_
              refine AList.c 162 rfl rfl rfl (OpJ.not_ rfl rfl) ?_
              refine AList.nil ?_
              refine AWp.cond _ rfl (fun hc6 => ?_) (fun hc6 => ?_)
              · skip
                have hcb : can.testBit i = false := by simpa using hc6
                have hb1 : bitsN can (i + 1) = bitsN can i := by rw [bitsN_succ, hcb]; rfl
                have hm : (orL ((bitsN can (i + 1)).map (ownN l))) = (orL ((bitsN can i).map (ownN l))) := by rw [hb1]
                have hf : (bitsN can (i + 1)).isEmpty = (bitsN can i).isEmpty := by rw [hb1]
                have hs : (spF ((bitsN can (i + 1)).map (cntN l))) = (spF ((bitsN can i).map (cntN l))) := by rw [hb1]
                refine AWp.exit ?_
                refine AWp.region ?_
                refine AList.c 136 rfl rfl rfl (OpJ.move rfl rfl) ?_
                refine AList.c 137 rfl rfl rfl (OpJ.add rfl rfl rfl (i64ok ?_)) ?_
                · omega
                refine AList.c 15 rfl rfl rfl (OpJ.assign rfl rfl) ?_
                refine AList.nil ?_
                refine ⟨i + 1, ?_, ?_, ?_⟩
                · omega
                · omega
                refine To.done [0, 1] rfl (Sub.cons rfl (Sub.cons (by rw [hm]; rfl) (Sub.cons (by rw [hf]; rfl) (by repeat (first | exact Sub.nil | refine Sub.cons rfl ?_))))) ?_
                rw [hs]
                rfl
              · skip
                have hcb : can.testBit i = true := by simpa using hc6
                have hb1 : bitsN can (i + 1) = bitsN can i ++ [i] := by rw [bitsN_succ, hcb]; rfl
                have hf : (bitsN can (i + 1)).isEmpty = false := by rw [hb1]; simp
                have hml : (orL ((bitsN can i).map (ownN l))) < 2 ^ 24 := bit_lt fun x hx => by obtain ⟨n, h1, h2⟩ := (orL_bit _ _).1 hx; obtain ⟨j, _, rfl⟩ := List.mem_map.1 h1; have := bit_of_lt (own_lt l j) h2; omega
                have howl := own_lt l i
                refine AWp.skip ?_
                refine AWp.seq ?_
                refine AWp.region ?_
                refine AList.c 19 rfl rfl rfl (OpJ.assign rfl rfl) ?_
                refine AList.nil ?_
                refine AWp.seq ?_
                refine AWp.seq ?_
                refine AWp.region ?_
                refine AList.c 20 rfl rfl rfl (OpJ.assign rfl rfl) ?_
                refine AList.nil ?_
                refine AWp.block ?_
                refine AWp.loopKL [0, 1, 2, 6, 7, 9, 10, 13, 14, 15, 16, 17, 18, 132, 133, 134, 135, 136, 137, 138, 139, 140, 141, 142, 143, 144, 145, 146, 147, 148, 149, 150, 151, 152, 153, 154, 155, 156, 157, 158, 159, 160, 161, 162, 193, 194, 195, 196, 197, 198, 199, 200, 201, 202, 203, 204, 205, 206, 207, 208, 209, 210, 211, 212, 213, 214, 215, 216] (fun g => [(20, .p (.int .i64 ((g : Nat) : Int))), (19, .p (.int .i64 (sumK l (bitsN (ownN l i) g)))), (12, .p (.int .i64 (((orL ((bitsN can i).map (ownN l))) ||| lowN (ownN l i) g : Nat) : Int)))]) (fun g => g ≤ l.length) (fun g => l.length - g) 0 (Nat.zero_le _) (Sub.cons rfl (Sub.cons rfl (Sub.cons (by rw [show lowN (ownN l i) 0 = 0 from rfl, Nat.or_zero]; rfl) Sub.nil))) (fun k hh => ?_)
                refine AWp.seq ?_
                refine AWp.seq ?_
                refine AWp.region ?_
                refine AList.c 163 rfl rfl rfl (OpJ.move rfl rfl) ?_
                refine AList.c 164 rfl rfl rfl (OpJ.move rfl rfl) ?_
                refine AList.c 165 rfl rfl rfl (OpJ.lenSlice rfl rfl sl22 rfl) ?_
                refine AList.c 166 rfl rfl rfl (OpJ.lss rfl rfl rfl) ?_
                refine AList.nil ?_
                refine AWp.cond _ rfl (fun hc7 => ?_) (fun hc7 => ?_)
                · skip
                  have hj0 : k < l.length := by have h := of_decide_eq_true hc7; omega
                  have hB1 := sumK_bits_B hC i (show k ≤ l.length by omega)
                  have hB2 := (hC k hj0).2.2
                  have hlo := lowN_lt (ownN l i) k
                  have hpi := Nat.pow_le_pow_right (show 0 < 2 by omega) (show k ≤ 24 by omega)
                  have hpj := Nat.pow_lt_pow_right (show 1 < 2 by omega) (show k < 25 by omega)
                  have hor0 : (orL ((bitsN can i).map (ownN l))) ||| lowN (ownN l i) k < 2 ^ 25 := Nat.or_lt_two_pow (by omega) (by omega)
                  have hor : ((orL ((bitsN can i).map (ownN l))) ||| lowN (ownN l i) k) ||| 1 * 2 ^ k < 2 ^ 25 := Nat.or_lt_two_pow hor0 (by rw [Nat.one_mul]; exact hpj)
                  have hdv := Nat.div_le_self (aheadN l i) (2 ^ k)
                  refine AWp.skip ?_
                  refine AWp.seq ?_
                  refine AWp.block ?_
                  refine AWp.seq ?_
                  refine AWp.region ?_
                  refine AList.c 169 rfl rfl rfl (OpJ.move rfl rfl) ?_
                  refine AList.c 170 rfl rfl rfl (OpJ.move rfl rfl) ?_
                  refine AList.c 171 rfl rfl rfl (OpJ.shrN (aheadN l i) k rfl rfl rfl (by first | decide | (show _ ≤ (9223372036854775807 : Int); omega) | (show _ ≤ (4294967295 : Int); omega))) ?_
                  refine AList.c 172 rfl rfl rfl (OpJ.andN (aheadN l i / 2 ^ k) 1 rfl rfl rfl (by first | (show _ ≤ (9223372036854775807 : Int); omega) | (show _ ≤ (4294967295 : Int); omega)) (by first | decide | (show _ ≤ (9223372036854775807 : Int); omega) | (show _ ≤ (4294967295 : Int); omega))) ?_
                  refine AList.c 173 rfl rfl rfl (OpJ.eql rfl rfl rfl) ?_
                  refine AList.c 174 rfl rfl rfl (OpJ.move rfl rfl) ?_
                  refine AList.g 175 174 rfl rfl rfl rfl rfl rfl rfl [(0, _)] (fun h => And.intro (.inl rfl) (trivial)) (fun h => (OpJ.move rfl rfl)) ?_
                  refine AList.g 176 174 rfl rfl rfl rfl rfl rfl rfl [(20, _)] (fun h => And.intro (.inl rfl) (trivial)) (fun h => (OpJ.move rfl rfl)) ?_
                  refine AList.g 177 174 rfl rfl rfl rfl rfl rfl rfl [(175, _), (176, _)] (fun h => And.intro (.inr ⟨_, rfl, h⟩) (And.intro (.inr ⟨_, rfl, h⟩) (trivial))) (fun h => (OpJ.indexG (g := bt l) bt_get rfl rfl rfl sl22 el22 rfl (fun _ => rfl) (by decide) hj0)) ?_
                  refine AList.g 178 174 rfl rfl rfl rfl rfl rfl rfl [(177, _)] (fun h => And.intro (.inr ⟨_, rfl, h⟩) (trivial)) (fun h => (OpJ.fieldAddr rfl rfl fd39_1 rfl)) ?_
                  refine AList.g 179 174 rfl rfl rfl rfl rfl rfl rfl [(178, _)] (fun h => And.intro (.inr ⟨_, rfl, h⟩) (trivial)) (fun h => (OpJ.load (v := .p (.int .i64 (bt l k).s)) rfl rfl ty3 rfl)) ?_
                  refine AList.g 180 174 rfl rfl rfl rfl rfl rfl rfl [(179, _)] (fun h => And.intro (.inr ⟨_, rfl, h⟩) (trivial)) (fun h => (OpJ.gtr rfl rfl rfl)) ?_
                  refine AList.c 181 rfl rfl rfl (OpJ.and_ rfl rfl rfl ?_) ?_
                  · first | (intro h; rw [h]; rfl) | (intro h; simp_all)
                  refine AList.nil ?_
                  refine AWp.cond _ rfl (fun hc8 => ?_) (fun hc8 => ?_)
                  · skip
                    have hob : (ownN l i).testBit k = true := by rw [← own_cond hj0, ← bitE]; exact hc8
                    have hst1 : sumK l (bitsN (ownN l i) (k + 1)) = sumK l (bitsN (ownN l i) k) + (bt l k).s := by rw [bitsN_succ, if_pos hob, sumK_snoc]
                    have hst2 : (orL ((bitsN can i).map (ownN l))) ||| lowN (ownN l i) (k + 1) = ((orL ((bitsN can i).map (ownN l))) ||| lowN (ownN l i) k) ||| 1 * 2 ^ k := by rw [lowN_succ, if_pos hob, Nat.one_mul, Nat.or_assoc]
                    refine AWp.seq ?_
                    refine AWp.region ?_
                    refine AList.c 182 rfl rfl rfl (OpJ.move rfl rfl) ?_
                    refine AList.c 183 rfl rfl rfl (OpJ.move rfl rfl) ?_
                    refine AList.c 184 rfl rfl rfl (OpJ.shlN 1 k rfl rfl rfl (by show _ ≤ (64 : Nat); omega) (by show _ ≤ (9223372036854775807 : Int); rw [Nat.one_mul]; omega)) ?_
                    refine AList.c 185 rfl rfl rfl (OpJ.orN ((orL ((bitsN can i).map (ownN l))) ||| lowN (ownN l i) k) (1 * 2 ^ k) rfl rfl rfl (by show _ ≤ (9223372036854775807 : Int); omega) (by show _ ≤ (9223372036854775807 : Int); rw [Nat.one_mul]; omega) (by show _ ≤ (9223372036854775807 : Int); omega)) ?_
                    refine AList.c 12 rfl rfl rfl (OpJ.assign rfl rfl) ?_
                    refine AList.nil ?_
                    refine AWp.region ?_
                    refine AList.c 186 rfl rfl rfl (OpJ.move rfl rfl) ?_
                    refine AList.c 187 rfl rfl rfl (OpJ.move rfl rfl) ?_
                    refine AList.c 188 rfl rfl rfl (OpJ.move rfl rfl) ?_
                    refine AList.c 189 rfl rfl rfl (OpJ.indexG (g := bt l) bt_get rfl rfl rfl sl22 el22 rfl (fun _ => rfl) (by decide) hj0) ?_
                    refine AList.c 190 rfl rfl rfl (OpJ.fieldAddr rfl rfl fd39_1 rfl) ?_
                    refine AList.c 191 rfl rfl rfl (OpJ.load (v := .p (.int .i64 (bt l k).s)) rfl rfl ty3 rfl) ?_
                    refine AList.c 192 rfl rfl rfl (OpJ.add rfl rfl rfl (i64ok ?_)) ?_
                    · omega
                    refine AList.c 19 rfl rfl rfl (OpJ.assign rfl rfl) ?_
                    refine AList.nil ?_
                    refine AWp.region ?_
                    refine AList.c 167 rfl rfl rfl (OpJ.move rfl rfl) ?_
                    refine AList.c 168 rfl rfl rfl (OpJ.add rfl rfl rfl (i64ok ?_)) ?_
                    · omega
                    refine AList.c 20 rfl rfl rfl (OpJ.assign rfl rfl) ?_
                    refine AList.nil ?_
                    refine ⟨k + 1, ?_, ?_, ?_⟩
                    · omega
                    · omega
                    refine To.sub (Sub.cons rfl (Sub.cons (by rw [hst1]; rfl) (Sub.cons (by rw [hst2]; rfl) (by repeat (first | exact Sub.nil | refine Sub.cons rfl ?_)))))
                  · skip
                    have hob : (ownN l i).testBit k = false := by rw [← own_cond hj0, ← bitE]; exact hc8
                    have hst1 : sumK l (bitsN (ownN l i) (k + 1)) = sumK l (bitsN (ownN l i) k) := by rw [bitsN_succ, hob]; rfl
                    have hst2 : (orL ((bitsN can i).map (ownN l))) ||| lowN (ownN l i) (k + 1) = (orL ((bitsN can i).map (ownN l))) ||| lowN (ownN l i) k := by rw [lowN_succ, hob]; rfl
                    refine AWp.skip ?_
                    refine AWp.region ?_
                    refine AList.c 167 rfl rfl rfl (OpJ.move rfl rfl) ?_
                    refine AList.c 168 rfl rfl rfl (OpJ.add rfl rfl rfl (i64ok ?_)) ?_
                    · omega
                    refine AList.c 20 rfl rfl rfl (OpJ.assign rfl rfl) ?_
                    refine AList.nil ?_
                    refine ⟨k + 1, ?_, ?_, ?_⟩
                    · omega
                    · omega
                    refine To.sub (Sub.cons rfl (Sub.cons (by rw [hst1]; rfl) (Sub.cons (by rw [hst2]; rfl) (by repeat (first | exact Sub.nil | refine Sub.cons rfl ?_)))))
                · skip
                  obtain rfl : k = l.length := by have h := of_decide_eq_false hc7; omega
                  have hm : (orL ((bitsN can (i + 1)).map (ownN l))) = (orL ((bitsN can i).map (ownN l))) ||| lowN (ownN l i) l.length := by rw [hb1, List.map_append, lowN_all howl]; exact orL_snoc _ _
                  rw [cnt_all h24]
                  refine AWp.exit ?_
                  refine AWp.seq ?_
                  refine AWp.seq ?_
                  refine AWp.region ?_
                  refine AList.c 193 rfl rfl rfl (OpJ.move rfl rfl) ?_
                  refine AList.nil ?_
                  refine AWp.cond _ rfl (fun hc9 => ?_) (fun hc9 => ?_)
                  · skip
                    have hs : (spF ((bitsN can (i + 1)).map (cntN l))) = (min (cntN l i) (cntN l i), max (cntN l i) (cntN l i)) := by rw [hb1, List.isEmpty_iff.1 hc9, Int.min_self, Int.max_self]; rfl
                    refine AWp.region ?_
                    refine AList.c 194 rfl rfl rfl (OpJ.move rfl rfl) ?_
                    refine AList.c 195 rfl rfl rfl (OpJ.move rfl rfl) ?_
                    refine AList.c 196 rfl rfl rfl (OpJ.build rfl bd32 rfl rfl) ?_
                    refine AList.c0 rfl rfl (OpJ.store rfl rfl rfl rfl rfl ty32 rfl rfl) ?_
                    refine AList.nil ?_
                    refine AWp.seq ?_
                    refine AWp.region ?_
                    refine AList.c 197 rfl rfl rfl (OpJ.fieldAddr rfl rfl fd32_0 rfl) ?_
                    refine AList.c 198 rfl rfl rfl (OpJ.load rfl rfl ty3 rfl) ?_
                    refine AList.c 199 rfl rfl rfl (OpJ.move rfl rfl) ?_
                    refine AList.c 200 rfl rfl rfl (OpJ.min2 rfl rfl rfl) ?_
                    refine AList.c 201 rfl rfl rfl (OpJ.fieldAddr rfl rfl fd32_1 rfl) ?_
                    refine AList.c 202 rfl rfl rfl (OpJ.load rfl rfl ty3 rfl) ?_
                    refine AList.c 203 rfl rfl rfl (OpJ.move rfl rfl) ?_
                    refine AList.c 204 rfl rfl rfl (OpJ.max2 rfl rfl rfl) ?_
                    refine AList.c 205 rfl rfl rfl (OpJ.build rfl bd32 rfl rfl) ?_
                    refine AList.c0 rfl rfl (OpJ.store rfl rfl rfl rfl rfl ty32 rfl rfl) ?_
                    refine AList.nil ?_
                    refine AWp.region ?_
                    refine AList.c 13 rfl rfl rfl (OpJ.assign rfl rfl) ?_
                    refine AList.nil ?_
                    refine AWp.region ?_
                    refine AList.c 136 rfl rfl rfl (OpJ.move rfl rfl) ?_
                    refine AList.c 137 rfl rfl rfl (OpJ.add rfl rfl rfl (i64ok ?_)) ?_
                    · omega
                    refine AList.c 15 rfl rfl rfl (OpJ.assign rfl rfl) ?_
                    refine AList.nil ?_
                    refine ⟨i + 1, ?_, ?_, ?_⟩
                    · omega
                    · omega
                    refine To.done [0, 1] rfl (Sub.cons rfl (Sub.cons (by rw [hm]; rfl) (Sub.cons (by rw [hf]; rfl) (by repeat (first | exact Sub.nil | refine Sub.cons rfl ?_))))) ?_
                    rw [hs]
                    rfl
                  · skip
                    have hs : (spF ((bitsN can (i + 1)).map (cntN l))) = (min (spF ((bitsN can i).map (cntN l))).1 (cntN l i), max (spF ((bitsN can i).map (cntN l))).2 (cntN l i)) := by rw [hb1, List.map_append]; exact spF_snoc _ _ (by intro h; rw [List.map_eq_nil_iff] at h; rw [h] at hc9; cases hc9)
                    refine AWp.skip ?_
                    refine AWp.seq ?_
                    refine AWp.region ?_
                    refine AList.c 197 rfl rfl rfl (OpJ.fieldAddr rfl rfl fd32_0 rfl) ?_
                    refine AList.c 198 rfl rfl rfl (OpJ.load rfl rfl ty3 rfl) ?_
                    refine AList.c 199 rfl rfl rfl (OpJ.move rfl rfl) ?_
                    refine AList.c 200 rfl rfl rfl (OpJ.min2 rfl rfl rfl) ?_
                    refine AList.c 201 rfl rfl rfl (OpJ.fieldAddr rfl rfl fd32_1 rfl) ?_
                    refine AList.c 202 rfl rfl rfl (OpJ.load rfl rfl ty3 rfl) ?_
                    refine AList.c 203 rfl rfl rfl (OpJ.move rfl rfl) ?_
                    refine AList.c 204 rfl rfl rfl (OpJ.max2 rfl rfl rfl) ?_
                    refine AList.c 205 rfl rfl rfl (OpJ.build rfl bd32 rfl rfl) ?_
                    refine AList.c0 rfl rfl (OpJ.store rfl rfl rfl rfl rfl ty32 rfl rfl) ?_
                    refine AList.nil ?_
                    refine AWp.region ?_
                    refine AList.c 13 rfl rfl rfl (OpJ.assign rfl rfl) ?_
                    refine AList.nil ?_
                    refine AWp.region ?_
                    refine AList.c 136 rfl rfl rfl (OpJ.move rfl rfl) ?_
                    refine AList.c 137 rfl rfl rfl (OpJ.add rfl rfl rfl (i64ok ?_)) ?_
                    · omega
                    refine AList.c 15 rfl rfl rfl (OpJ.assign rfl rfl) ?_
                    refine AList.nil ?_
                    refine ⟨i + 1, ?_, ?_, ?_⟩
                    · omega
                    · omega
                    refine To.done [0, 1] rfl (Sub.cons rfl (Sub.cons (by rw [hm]; rfl) (Sub.cons (by rw [hf]; rfl) (by repeat (first | exact Sub.nil | refine Sub.cons rfl ?_))))) ?_
                    rw [hs]
                    rfl
        · skip
          obtain rfl : i = l.length := by have h := of_decide_eq_false hc3; omega
          have hba : bitsN can l.length = bitsN can 32 := (bitsN_all hcl (by omega)).symm
          rw [hba]
          refine AWp.exit ?_
          refine AWp.seq ?_
          refine AWp.region ?_
          refine AList.c 206 rfl rfl rfl (OpJ.move rfl rfl) ?_
          refine AList.c 207 rfl rfl rfl (OpJ.move rfl rfl) ?_
          refine AList.c 208 rfl rfl rfl (OpJ.eql rfl rfl rfl) ?_
          refine AList.c 209 rfl rfl rfl (OpJ.move rfl rfl) ?_
          refine AList.g 210 209 rfl rfl rfl rfl rfl rfl rfl [(10, _)] (fun h => And.intro (.inl rfl) (trivial)) (fun h => (OpJ.load (v := .p (.agg [.int .i64 (spanN l can).1, .int .i64 (spanN l can).2])) rfl rfl ty32 rfl)) ?_
          refine AList.g 211 209 rfl rfl rfl rfl rfl rfl rfl [(14, _)] (fun h => And.intro (.inl rfl) (trivial)) (fun h => (OpJ.load (v := .p (.agg [.int .i64 (spanN l can).1, .int .i64 (spanN l can).2])) rfl rfl ty32 rfl)) ?_
          refine AList.g 212 209 rfl rfl rfl rfl rfl rfl rfl [(210, _), (211, _)] (fun h => And.intro (.inr ⟨_, rfl, h⟩) (And.intro (.inr ⟨_, rfl, h⟩) (trivial))) (fun h => (OpJ.eqAgg (d := 8) rfl (.inl rfl) rfl rfl (by decide) eq32 ty32 rfl eg32 rfl)) ?_
          refine AList.c 213 rfl rfl rfl (OpJ.and_ rfl rfl rfl ?_) ?_
          · first | (intro h; rw [h]; rfl) | (intro h; simp_all)
          refine AList.c 214 rfl rfl rfl (OpJ.move rfl rfl) ?_
          refine AList.g 215 214 rfl rfl rfl rfl rfl rfl rfl [] (fun h => trivial) (fun h => (OpJ.callP (awake_ok) rfl rfl rfl rfl rf10)) ?_
          refine AList.c 216 rfl rfl rfl (OpJ.and_ rfl rfl rfl ?_) ?_
          · first | (intro h; rw [h]; rfl) | (intro h; simp_all)
          refine AList.c 6 rfl rfl rfl (OpJ.assign rfl rfl) ?_
          refine AList.nil ?_
          refine AWp.ret ?_
          refine Fin.oneE rfl rfl ?_
          simp [show callN l can = orL ((bitsN can 32).map (ownN l)) from rfl]
theorem recallNoOther_law {x0 x1 x2 : List PV} (h0 : TyL [.sl [.leaf (.int .i64), .leaf (.int .i64)]] x0) (h1 : TyL [.leaf (.int .i64)] x1) (h2 : TyL [.leaf (.int .i64)] x2) : Pure Tryd.prog 6 [argP false x0, argP false x1, argP false x2] (.bool true) := by
  obtain ⟨l, rfl, hl⟩ := bats_of h0
  obtain ⟨b, rfl⟩ := int_of h1
  obtain ⟨g, rfl⟩ := int_of h2
  exact recallNoOther_main l b g hl
end Go.Proofs.YtlalikkkobpfgaaDoor
